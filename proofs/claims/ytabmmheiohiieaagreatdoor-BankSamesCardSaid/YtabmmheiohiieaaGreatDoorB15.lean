/- Part 15 of the proof: CbE1, CbE2, CbE3, CbE4, CbTc, CbE6b, CbEd, CbEd3, CbE5d, CbEd4, CbE6c, CbEe1, CbEe2, CbE6a, CbE7, CbE8, CbE9c, CbE9a, CbE9b, CbEa1, CbEb2, CbEd1, CbE5c, CbEd2, CbEe3, CbEa2, CbEb1, CbEc1, CbE5a, CbEd5, CbE5b, CbEd6, CbT4, CbFast. -/
import Derived.Test.YtabmmheiohiieaaGreatDoorB14
import Derived.Test.YtabmmheiohiieaaGreatDoorB7
import Derived.Test.YtabmmheiohiieaaGreatDoorB8
import Derived.Test.YtabmmheiohiieaaGreatDoorB6
import Derived.Test.YtabmmheiohiieaaGreatDoorB3
section
open Go.Sim
attribute [local simp ↓] kC_skip kC_ret kC_exit kC_seq kC_block kC_reg kC_cond kC_condc sqK blK lpK kO_nil kO_O kO_E kO_OG kO_EG grd_b grd_t tst_b brn_true brn_false brn_not chk_T b_mov b_pick b_alloc b_box b_load b_store b_bin b_un b_eqv b_faddr b_field b_iaddr b_sl b_len b_app b_call b_call1 b_callR b_ext bo_some bo_none bo2_some bo2_none bo_iaddr bo_addS bo_quo bo_rem bo_bnd bo_bnd0 ld_q0 ld_qw ld_p subP0 subPw bo_moveP bo_moveQ bo_lenl bo_lens bo_lenr bo_add bo_sub bo_mul bo_eql bo_neq bo_lss bo_leq bo_gtr bo_geq bo_neg bo_not bo_eqS bo_neS grd_nb b_slS slSK_s extK_t ownL_l fin_ret fin_norm bo_res0 bo_rest bo_resc st_p stK_box b_callv callvK_f0 callvK_f1 mkf_b subPs ld_qs kC_regS0 kC_regS1 kC_regS2 kC_regS3 kC_regS4 kC_regS5 b_eqb eqbK_b
attribute [local simp] K_refl obj_0 obj_s get_c get_n drop_c drop_n set_c set_n fix_c fix_n rd IOp.adds nadds gh nid rgK rdS ghosts_c ghosts_n packed1 packed2 purT_b purT_i purT_s purT_a purT_lt purT_lf K_ss K_ns K_sn plains_n plains_c env_val env_ref purs_n purs_d put_0 put_s
section
namespace Go.Sim
set_option maxRecDepth 10000
theorem loop122 (E : Env) (z : List (APeriod × APeriod)) (s t : Bool) (hn : z.length ≤ maxLen) {k : KC (PV × Bool)} {r : Option (PV × Bool)} {fr : Fr} {H : Heap} (hr : ∀ fr H, fr.get 4 = .d (.b false) → ghosts fr = [] → k .ret fr H = r)
  (h0 : gc [0, 1, 12, 13] 0 ⟨fr, H⟩ = ⟨[(13, .d (I 0)), (12, .d (I z.length)), (1, .d (.l (K1 11) ((z.map Prod.snd).map APeriod.dv) t)), (0, .d (.l (K1 11) ((z.map Prod.fst).map APeriod.dv) s))], []⟩) :
  kC E 0 fr H (.h (.loop [0, 1, 12, 13] L122_0, k)) = if (z.all fun p => APeriod.beq p.1 p.2) = true then k (.exit 0) ((14, .d (.b false)) :: [(13, .d (I z.length)), (12, .d (I z.length)), (1, .d (.l (K1 11) ((z.map Prod.snd).map APeriod.dv) t)), (0, .d (.l (K1 11) ((z.map Prod.fst).map APeriod.dv) s))]) [] else r := by
 rw [loop_rounds z (fun i _ => ⟨[(13, .d (I i)), (12, .d (I z.length)), (1, .d (.l (K1 11) ((z.map Prod.snd).map APeriod.dv) t)), (0, .d (.l (K1 11) ((z.map Prod.fst).map APeriod.dv) s))], []⟩) (fun _ _ => True) (fun i _ p c => if APeriod.beq p.1 p.2 = true then c () else r) (fun _ => k (.exit 0) ((14, .d (.b false)) :: [(13, .d (I z.length)), (12, .d (I z.length)), (1, .d (.l (K1 11) ((z.map Prod.snd).map APeriod.dv) t)), (0, .d (.l (K1 11) ((z.map Prod.fst).map APeriod.dv) s))]) []) ?_ ?_ h0 trivial]
 ·rw [rounds_all (fun p => APeriod.beq p.1 p.2) r]
  exact fun _ _ _ _ => rfl
 ·intro B _ _ _
  simp [L122_0]
 ·intro B _ i _ hi _ c hc
  have hm := mxl
  have h1 : (i : Int) < z.length := by omega
  have h3 := wr1 (i := i) (by omega)
  have he : eqA [1, 1, 1, 1, 1, 1, 1, 1, 1, 1, 1] (.d (APeriod.dv z[i].1)) (.d (APeriod.dv z[i].2)) = some (APeriod.beq z[i].1 z[i].2) := by
   simp [eqA, eqL, eqK, APeriod.dv, APeriod.beq, AWide.beq, ibq, Bool.and_assoc]
  simp [L122_0, h1, hi, he]
  repeat' (refine brn_split (fun h => ?_) (fun h => ?_) <;> (try simp at h) <;> (try simp [h, h3]))
  all_goals first
   | exact hr _ _ (by simp [Fr.get]) (by simp [ghosts, gh])
   | exact hc () _ _ trivial (by simp [gc, Fr.keep, reach, frRefs, heapRefs, PV.refs, gcH, PV.ren, Obj.ren, Heap.obj, Fr.ren, gh])
theorem val122 (T : Tab) (hF : T.F 122 = some F122) (x y : List APeriod) (s t : Bool) (hn : x.length ≤ maxLen) : T.val 122 [.l (K1 11) (x.map APeriod.dv) s, .l (K1 11) (y.map APeriod.dv) t] = some (.d (.b (lsb APeriod.beq x y)), false) := by
 rw [val_k T hF rfl]
 by_cases hl : x.length = y.length
 ·obtain ⟨z, rfl, rfl⟩ := zip_of x y hl
  rw [lsb_zip]
  have hz : z.length ≤ maxLen := by simpa using hn
  have lp := fun k fr H => @loop122 T.env z s t hz k (some (.d (.b false), false)) fr H
  simp [F122, Fr.ofArgs]
  rw [lp]
  ·split
   ·rename_i hq
    simp only [blK, sqK]
    simp [hq]
   ·rename_i hq
    have hq' : (z.all fun p => APeriod.beq p.1 p.2) = false := by simpa using hq
    rw [hq']
  ·intro fr H h1 h2
   simp [h1, h2]
  ·simp [gc, Fr.keep, reach, frRefs, heapRefs, PV.refs, gcH, PV.ren, Obj.ren, Heap.obj, Fr.ren, gh]
 ·rw [lsb_len _ _ hl]
  have hl' : ((x.length : Int) == (y.length : Int)) = false := by simp; omega
  simp [F122, Fr.ofArgs, hl', bne]
theorem loop125 (E : Env) (z : List (AOrder × AOrder)) (s t : Bool) (hn : z.length ≤ maxLen) {k : KC (PV × Bool)} {r : Option (PV × Bool)} {fr : Fr} {H : Heap} (hr : ∀ fr H, fr.get 4 = .d (.b false) → ghosts fr = [] → k .ret fr H = r)
  (h0 : gc [0, 1, 12, 13] 0 ⟨fr, H⟩ = ⟨[(13, .d (I 0)), (12, .d (I z.length)), (1, .d (.l (K1 10) ((z.map Prod.snd).map AOrder.dv) t)), (0, .d (.l (K1 10) ((z.map Prod.fst).map AOrder.dv) s))], []⟩) :
  kC E 0 fr H (.h (.loop [0, 1, 12, 13] L125_0, k)) = if (z.all fun p => AOrder.beq p.1 p.2) = true then k (.exit 0) ((14, .d (.b false)) :: [(13, .d (I z.length)), (12, .d (I z.length)), (1, .d (.l (K1 10) ((z.map Prod.snd).map AOrder.dv) t)), (0, .d (.l (K1 10) ((z.map Prod.fst).map AOrder.dv) s))]) [] else r := by
 rw [loop_rounds z (fun i _ => ⟨[(13, .d (I i)), (12, .d (I z.length)), (1, .d (.l (K1 10) ((z.map Prod.snd).map AOrder.dv) t)), (0, .d (.l (K1 10) ((z.map Prod.fst).map AOrder.dv) s))], []⟩) (fun _ _ => True) (fun i _ p c => if AOrder.beq p.1 p.2 = true then c () else r) (fun _ => k (.exit 0) ((14, .d (.b false)) :: [(13, .d (I z.length)), (12, .d (I z.length)), (1, .d (.l (K1 10) ((z.map Prod.snd).map AOrder.dv) t)), (0, .d (.l (K1 10) ((z.map Prod.fst).map AOrder.dv) s))]) []) ?_ ?_ h0 trivial]
 ·rw [rounds_all (fun p => AOrder.beq p.1 p.2) r]
  exact fun _ _ _ _ => rfl
 ·intro B _ _ _
  simp [L125_0]
 ·intro B _ i _ hi _ c hc
  have hm := mxl
  have h1 : (i : Int) < z.length := by omega
  have h3 := wr1 (i := i) (by omega)
  have he : eqA [1, 1, 1, 1, 1, 1, 1, 1, 1, 3] (.d (AOrder.dv z[i].1)) (.d (AOrder.dv z[i].2)) = some (AOrder.beq z[i].1 z[i].2) := by
   simp [eqA, eqL, eqK, AOrder.dv, AOrder.beq, ibq, sbq, Bool.and_assoc]
  simp [L125_0, h1, hi, he]
  repeat' (refine brn_split (fun h => ?_) (fun h => ?_) <;> (try simp at h) <;> (try simp [h, h3]))
  all_goals first
   | exact hr _ _ (by simp [Fr.get]) (by simp [ghosts, gh])
   | exact hc () _ _ trivial (by simp [gc, Fr.keep, reach, frRefs, heapRefs, PV.refs, gcH, PV.ren, Obj.ren, Heap.obj, Fr.ren, gh])
theorem val125 (T : Tab) (hF : T.F 125 = some F125) (x y : List AOrder) (s t : Bool) (hn : x.length ≤ maxLen) : T.val 125 [.l (K1 10) (x.map AOrder.dv) s, .l (K1 10) (y.map AOrder.dv) t] = some (.d (.b (lsb AOrder.beq x y)), false) := by
 rw [val_k T hF rfl]
 by_cases hl : x.length = y.length
 ·obtain ⟨z, rfl, rfl⟩ := zip_of x y hl
  rw [lsb_zip]
  have hz : z.length ≤ maxLen := by simpa using hn
  have lp := fun k fr H => @loop125 T.env z s t hz k (some (.d (.b false), false)) fr H
  simp [F125, Fr.ofArgs]
  rw [lp]
  ·split
   ·rename_i hq
    simp only [blK, sqK]
    simp [hq]
   ·rename_i hq
    have hq' : (z.all fun p => AOrder.beq p.1 p.2) = false := by simpa using hq
    rw [hq']
  ·intro fr H h1 h2
   simp [h1, h2]
  ·simp [gc, Fr.keep, reach, frRefs, heapRefs, PV.refs, gcH, PV.ren, Obj.ren, Heap.obj, Fr.ren, gh]
 ·rw [lsb_len _ _ hl]
  have hl' : ((x.length : Int) == (y.length : Int)) = false := by simp; omega
  simp [F125, Fr.ofArgs, hl', bne]
theorem loop126 (E : Env) (z : List (AMandate × AMandate)) (s t : Bool) (hn : z.length ≤ maxLen) {k : KC (PV × Bool)} {r : Option (PV × Bool)} {fr : Fr} {H : Heap} (hr : ∀ fr H, fr.get 4 = .d (.b false) → ghosts fr = [] → k .ret fr H = r)
  (h0 : gc [0, 1, 12, 13] 0 ⟨fr, H⟩ = ⟨[(13, .d (I 0)), (12, .d (I z.length)), (1, .d (.l (K1 7) ((z.map Prod.snd).map AMandate.dv) t)), (0, .d (.l (K1 7) ((z.map Prod.fst).map AMandate.dv) s))], []⟩) :
  kC E 0 fr H (.h (.loop [0, 1, 12, 13] L126_0, k)) = if (z.all fun p => AMandate.beq p.1 p.2) = true then k (.exit 0) ((14, .d (.b false)) :: [(13, .d (I z.length)), (12, .d (I z.length)), (1, .d (.l (K1 7) ((z.map Prod.snd).map AMandate.dv) t)), (0, .d (.l (K1 7) ((z.map Prod.fst).map AMandate.dv) s))]) [] else r := by
 rw [loop_rounds z (fun i _ => ⟨[(13, .d (I i)), (12, .d (I z.length)), (1, .d (.l (K1 7) ((z.map Prod.snd).map AMandate.dv) t)), (0, .d (.l (K1 7) ((z.map Prod.fst).map AMandate.dv) s))], []⟩) (fun _ _ => True) (fun i _ p c => if AMandate.beq p.1 p.2 = true then c () else r) (fun _ => k (.exit 0) ((14, .d (.b false)) :: [(13, .d (I z.length)), (12, .d (I z.length)), (1, .d (.l (K1 7) ((z.map Prod.snd).map AMandate.dv) t)), (0, .d (.l (K1 7) ((z.map Prod.fst).map AMandate.dv) s))]) []) ?_ ?_ h0 trivial]
 ·rw [rounds_all (fun p => AMandate.beq p.1 p.2) r]
  exact fun _ _ _ _ => rfl
 ·intro B _ _ _
  simp [L126_0]
 ·intro B _ i _ hi _ c hc
  have hm := mxl
  have h1 : (i : Int) < z.length := by omega
  have h3 := wr1 (i := i) (by omega)
  have he : eqA [1, 1, 1, 1, 1, 1, 3] (.d (AMandate.dv z[i].1)) (.d (AMandate.dv z[i].2)) = some (AMandate.beq z[i].1 z[i].2) := by
   simp [eqA, eqL, eqK, AMandate.dv, AMandate.beq, ibq, sbq, Bool.and_assoc]
  simp [L126_0, h1, hi, he]
  repeat' (refine brn_split (fun h => ?_) (fun h => ?_) <;> (try simp at h) <;> (try simp [h, h3]))
  all_goals first
   | exact hr _ _ (by simp [Fr.get]) (by simp [ghosts, gh])
   | exact hc () _ _ trivial (by simp [gc, Fr.keep, reach, frRefs, heapRefs, PV.refs, gcH, PV.ren, Obj.ren, Heap.obj, Fr.ren, gh])
theorem val126 (T : Tab) (hF : T.F 126 = some F126) (x y : List AMandate) (s t : Bool) (hn : x.length ≤ maxLen) : T.val 126 [.l (K1 7) (x.map AMandate.dv) s, .l (K1 7) (y.map AMandate.dv) t] = some (.d (.b (lsb AMandate.beq x y)), false) := by
 rw [val_k T hF rfl]
 by_cases hl : x.length = y.length
 ·obtain ⟨z, rfl, rfl⟩ := zip_of x y hl
  rw [lsb_zip]
  have hz : z.length ≤ maxLen := by simpa using hn
  have lp := fun k fr H => @loop126 T.env z s t hz k (some (.d (.b false), false)) fr H
  simp [F126, Fr.ofArgs]
  rw [lp]
  ·split
   ·rename_i hq
    simp only [blK, sqK]
    simp [hq]
   ·rename_i hq
    have hq' : (z.all fun p => AMandate.beq p.1 p.2) = false := by simpa using hq
    rw [hq']
  ·intro fr H h1 h2
   simp [h1, h2]
  ·simp [gc, Fr.keep, reach, frRefs, heapRefs, PV.refs, gcH, PV.ren, Obj.ren, Heap.obj, Fr.ren, gh]
 ·rw [lsb_len _ _ hl]
  have hl' : ((x.length : Int) == (y.length : Int)) = false := by simp; omega
  simp [F126, Fr.ofArgs, hl', bne]
theorem loop127 (E : Env) (z : List (ADebit × ADebit)) (s t : Bool) (hn : z.length ≤ maxLen) {k : KC (PV × Bool)} {r : Option (PV × Bool)} {fr : Fr} {H : Heap} (hr : ∀ fr H, fr.get 4 = .d (.b false) → ghosts fr = [] → k .ret fr H = r)
  (h0 : gc [0, 1, 12, 13] 0 ⟨fr, H⟩ = ⟨[(13, .d (I 0)), (12, .d (I z.length)), (1, .d (.l (K1 9) ((z.map Prod.snd).map ADebit.dv) t)), (0, .d (.l (K1 9) ((z.map Prod.fst).map ADebit.dv) s))], []⟩) :
  kC E 0 fr H (.h (.loop [0, 1, 12, 13] L127_0, k)) = if (z.all fun p => ADebit.beq p.1 p.2) = true then k (.exit 0) ((14, .d (.b false)) :: [(13, .d (I z.length)), (12, .d (I z.length)), (1, .d (.l (K1 9) ((z.map Prod.snd).map ADebit.dv) t)), (0, .d (.l (K1 9) ((z.map Prod.fst).map ADebit.dv) s))]) [] else r := by
 rw [loop_rounds z (fun i _ => ⟨[(13, .d (I i)), (12, .d (I z.length)), (1, .d (.l (K1 9) ((z.map Prod.snd).map ADebit.dv) t)), (0, .d (.l (K1 9) ((z.map Prod.fst).map ADebit.dv) s))], []⟩) (fun _ _ => True) (fun i _ p c => if ADebit.beq p.1 p.2 = true then c () else r) (fun _ => k (.exit 0) ((14, .d (.b false)) :: [(13, .d (I z.length)), (12, .d (I z.length)), (1, .d (.l (K1 9) ((z.map Prod.snd).map ADebit.dv) t)), (0, .d (.l (K1 9) ((z.map Prod.fst).map ADebit.dv) s))]) []) ?_ ?_ h0 trivial]
 ·rw [rounds_all (fun p => ADebit.beq p.1 p.2) r]
  exact fun _ _ _ _ => rfl
 ·intro B _ _ _
  simp [L127_0]
 ·intro B _ i _ hi _ c hc
  have hm := mxl
  have h1 : (i : Int) < z.length := by omega
  have h3 := wr1 (i := i) (by omega)
  have he : eqA [1, 1, 1, 1, 1, 1, 1, 1, 3] (.d (ADebit.dv z[i].1)) (.d (ADebit.dv z[i].2)) = some (ADebit.beq z[i].1 z[i].2) := by
   simp [eqA, eqL, eqK, ADebit.dv, ADebit.beq, ibq, sbq, Bool.and_assoc]
  simp [L127_0, h1, hi, he]
  repeat' (refine brn_split (fun h => ?_) (fun h => ?_) <;> (try simp at h) <;> (try simp [h, h3]))
  all_goals first
   | exact hr _ _ (by simp [Fr.get]) (by simp [ghosts, gh])
   | exact hc () _ _ trivial (by simp [gc, Fr.keep, reach, frRefs, heapRefs, PV.refs, gcH, PV.ren, Obj.ren, Heap.obj, Fr.ren, gh])
theorem val127 (T : Tab) (hF : T.F 127 = some F127) (x y : List ADebit) (s t : Bool) (hn : x.length ≤ maxLen) : T.val 127 [.l (K1 9) (x.map ADebit.dv) s, .l (K1 9) (y.map ADebit.dv) t] = some (.d (.b (lsb ADebit.beq x y)), false) := by
 rw [val_k T hF rfl]
 by_cases hl : x.length = y.length
 ·obtain ⟨z, rfl, rfl⟩ := zip_of x y hl
  rw [lsb_zip]
  have hz : z.length ≤ maxLen := by simpa using hn
  have lp := fun k fr H => @loop127 T.env z s t hz k (some (.d (.b false), false)) fr H
  simp [F127, Fr.ofArgs]
  rw [lp]
  ·split
   ·rename_i hq
    simp only [blK, sqK]
    simp [hq]
   ·rename_i hq
    have hq' : (z.all fun p => ADebit.beq p.1 p.2) = false := by simpa using hq
    rw [hq']
  ·intro fr H h1 h2
   simp [h1, h2]
  ·simp [gc, Fr.keep, reach, frRefs, heapRefs, PV.refs, gcH, PV.ren, Obj.ren, Heap.obj, Fr.ren, gh]
 ·rw [lsb_len _ _ hl]
  have hl' : ((x.length : Int) == (y.length : Int)) = false := by simp; omega
  simp [F127, Fr.ofArgs, hl', bne]
theorem loop128 (E : Env) (z : List (AMessage × AMessage)) (s t : Bool) (hn : z.length ≤ maxLen) {k : KC (PV × Bool)} {r : Option (PV × Bool)} {fr : Fr} {H : Heap} (hr : ∀ fr H, fr.get 4 = .d (.b false) → ghosts fr = [] → k .ret fr H = r)
  (h0 : gc [0, 1, 12, 13] 0 ⟨fr, H⟩ = ⟨[(13, .d (I 0)), (12, .d (I z.length)), (1, .d (.l (K1 7) ((z.map Prod.snd).map AMessage.dv) t)), (0, .d (.l (K1 7) ((z.map Prod.fst).map AMessage.dv) s))], []⟩) :
  kC E 0 fr H (.h (.loop [0, 1, 12, 13] L128_0, k)) = if (z.all fun p => AMessage.beq p.1 p.2) = true then k (.exit 0) ((14, .d (.b false)) :: [(13, .d (I z.length)), (12, .d (I z.length)), (1, .d (.l (K1 7) ((z.map Prod.snd).map AMessage.dv) t)), (0, .d (.l (K1 7) ((z.map Prod.fst).map AMessage.dv) s))]) [] else r := by
 rw [loop_rounds z (fun i _ => ⟨[(13, .d (I i)), (12, .d (I z.length)), (1, .d (.l (K1 7) ((z.map Prod.snd).map AMessage.dv) t)), (0, .d (.l (K1 7) ((z.map Prod.fst).map AMessage.dv) s))], []⟩) (fun _ _ => True) (fun i _ p c => if AMessage.beq p.1 p.2 = true then c () else r) (fun _ => k (.exit 0) ((14, .d (.b false)) :: [(13, .d (I z.length)), (12, .d (I z.length)), (1, .d (.l (K1 7) ((z.map Prod.snd).map AMessage.dv) t)), (0, .d (.l (K1 7) ((z.map Prod.fst).map AMessage.dv) s))]) []) ?_ ?_ h0 trivial]
 ·rw [rounds_all (fun p => AMessage.beq p.1 p.2) r]
  exact fun _ _ _ _ => rfl
 ·intro B _ _ _
  simp [L128_0]
 ·intro B _ i _ hi _ c hc
  have hm := mxl
  have h1 : (i : Int) < z.length := by omega
  have h3 := wr1 (i := i) (by omega)
  have he : eqA [3, 1, 1, 1, 1, 1, 3] (.d (AMessage.dv z[i].1)) (.d (AMessage.dv z[i].2)) = some (AMessage.beq z[i].1 z[i].2) := by
   simp [eqA, eqL, eqK, AMessage.dv, AMessage.beq, ibq, sbq, Bool.and_assoc]
  simp [L128_0, h1, hi, he]
  repeat' (refine brn_split (fun h => ?_) (fun h => ?_) <;> (try simp at h) <;> (try simp [h, h3]))
  all_goals first
   | exact hr _ _ (by simp [Fr.get]) (by simp [ghosts, gh])
   | exact hc () _ _ trivial (by simp [gc, Fr.keep, reach, frRefs, heapRefs, PV.refs, gcH, PV.ren, Obj.ren, Heap.obj, Fr.ren, gh])
theorem val128 (T : Tab) (hF : T.F 128 = some F128) (x y : List AMessage) (s t : Bool) (hn : x.length ≤ maxLen) : T.val 128 [.l (K1 7) (x.map AMessage.dv) s, .l (K1 7) (y.map AMessage.dv) t] = some (.d (.b (lsb AMessage.beq x y)), false) := by
 rw [val_k T hF rfl]
 by_cases hl : x.length = y.length
 ·obtain ⟨z, rfl, rfl⟩ := zip_of x y hl
  rw [lsb_zip]
  have hz : z.length ≤ maxLen := by simpa using hn
  have lp := fun k fr H => @loop128 T.env z s t hz k (some (.d (.b false), false)) fr H
  simp [F128, Fr.ofArgs]
  rw [lp]
  ·split
   ·rename_i hq
    simp only [blK, sqK]
    simp [hq]
   ·rename_i hq
    have hq' : (z.all fun p => AMessage.beq p.1 p.2) = false := by simpa using hq
    rw [hq']
  ·intro fr H h1 h2
   simp [h1, h2]
  ·simp [gc, Fr.keep, reach, frRefs, heapRefs, PV.refs, gcH, PV.ren, Obj.ren, Heap.obj, Fr.ren, gh]
 ·rw [lsb_len _ _ hl]
  have hl' : ((x.length : Int) == (y.length : Int)) = false := by simp; omega
  simp [F128, Fr.ofArgs, hl', bne]
theorem loop131 (E : Env) (z : List (AAvail × AAvail)) (s t : Bool) (hn : z.length ≤ maxLen) {k : KC (PV × Bool)} {r : Option (PV × Bool)} {fr : Fr} {H : Heap} (hr : ∀ fr H, fr.get 4 = .d (.b false) → ghosts fr = [] → k .ret fr H = r)
  (h0 : gc [0, 1, 12, 13] 0 ⟨fr, H⟩ = ⟨[(13, .d (I 0)), (12, .d (I z.length)), (1, .d (.l (K1 3) ((z.map Prod.snd).map AAvail.dv) t)), (0, .d (.l (K1 3) ((z.map Prod.fst).map AAvail.dv) s))], []⟩) :
  kC E 0 fr H (.h (.loop [0, 1, 12, 13] L131_0, k)) = if (z.all fun p => AAvail.beq p.1 p.2) = true then k (.exit 0) ((14, .d (.b false)) :: [(13, .d (I z.length)), (12, .d (I z.length)), (1, .d (.l (K1 3) ((z.map Prod.snd).map AAvail.dv) t)), (0, .d (.l (K1 3) ((z.map Prod.fst).map AAvail.dv) s))]) [] else r := by
 rw [loop_rounds z (fun i _ => ⟨[(13, .d (I i)), (12, .d (I z.length)), (1, .d (.l (K1 3) ((z.map Prod.snd).map AAvail.dv) t)), (0, .d (.l (K1 3) ((z.map Prod.fst).map AAvail.dv) s))], []⟩) (fun _ _ => True) (fun i _ p c => if AAvail.beq p.1 p.2 = true then c () else r) (fun _ => k (.exit 0) ((14, .d (.b false)) :: [(13, .d (I z.length)), (12, .d (I z.length)), (1, .d (.l (K1 3) ((z.map Prod.snd).map AAvail.dv) t)), (0, .d (.l (K1 3) ((z.map Prod.fst).map AAvail.dv) s))]) []) ?_ ?_ h0 trivial]
 ·rw [rounds_all (fun p => AAvail.beq p.1 p.2) r]
  exact fun _ _ _ _ => rfl
 ·intro B _ _ _
  simp [L131_0]
 ·intro B _ i _ hi _ c hc
  have hm := mxl
  have h1 : (i : Int) < z.length := by omega
  have h3 := wr1 (i := i) (by omega)
  have he : eqA [1, 1, 1] (.d (AAvail.dv z[i].1)) (.d (AAvail.dv z[i].2)) = some (AAvail.beq z[i].1 z[i].2) := by
   simp [eqA, eqL, eqK, AAvail.dv, AAvail.beq, ibq, Bool.and_assoc]
  simp [L131_0, h1, hi, he]
  repeat' (refine brn_split (fun h => ?_) (fun h => ?_) <;> (try simp at h) <;> (try simp [h, h3]))
  all_goals first
   | exact hr _ _ (by simp [Fr.get]) (by simp [ghosts, gh])
   | exact hc () _ _ trivial (by simp [gc, Fr.keep, reach, frRefs, heapRefs, PV.refs, gcH, PV.ren, Obj.ren, Heap.obj, Fr.ren, gh])
theorem val131 (T : Tab) (hF : T.F 131 = some F131) (x y : List AAvail) (s t : Bool) (hn : x.length ≤ maxLen) : T.val 131 [.l (K1 3) (x.map AAvail.dv) s, .l (K1 3) (y.map AAvail.dv) t] = some (.d (.b (lsb AAvail.beq x y)), false) := by
 rw [val_k T hF rfl]
 by_cases hl : x.length = y.length
 ·obtain ⟨z, rfl, rfl⟩ := zip_of x y hl
  rw [lsb_zip]
  have hz : z.length ≤ maxLen := by simpa using hn
  have lp := fun k fr H => @loop131 T.env z s t hz k (some (.d (.b false), false)) fr H
  simp [F131, Fr.ofArgs]
  rw [lp]
  ·split
   ·rename_i hq
    simp only [blK, sqK]
    simp [hq]
   ·rename_i hq
    have hq' : (z.all fun p => AAvail.beq p.1 p.2) = false := by simpa using hq
    rw [hq']
  ·intro fr H h1 h2
   simp [h1, h2]
  ·simp [gc, Fr.keep, reach, frRefs, heapRefs, PV.refs, gcH, PV.ren, Obj.ren, Heap.obj, Fr.ren, gh]
 ·rw [lsb_len _ _ hl]
  have hl' : ((x.length : Int) == (y.length : Int)) = false := by simp; omega
  simp [F131, Fr.ofArgs, hl', bne]
theorem loop132 (E : Env) (z : List (AWait × AWait)) (s t : Bool) (hn : z.length ≤ maxLen) {k : KC (PV × Bool)} {r : Option (PV × Bool)} {fr : Fr} {H : Heap} (hr : ∀ fr H, fr.get 4 = .d (.b false) → ghosts fr = [] → k .ret fr H = r)
  (h0 : gc [0, 1, 12, 13] 0 ⟨fr, H⟩ = ⟨[(13, .d (I 0)), (12, .d (I z.length)), (1, .d (.l (K1 3) ((z.map Prod.snd).map AWait.dv) t)), (0, .d (.l (K1 3) ((z.map Prod.fst).map AWait.dv) s))], []⟩) :
  kC E 0 fr H (.h (.loop [0, 1, 12, 13] L132_0, k)) = if (z.all fun p => AWait.beq p.1 p.2) = true then k (.exit 0) ((14, .d (.b false)) :: [(13, .d (I z.length)), (12, .d (I z.length)), (1, .d (.l (K1 3) ((z.map Prod.snd).map AWait.dv) t)), (0, .d (.l (K1 3) ((z.map Prod.fst).map AWait.dv) s))]) [] else r := by
 rw [loop_rounds z (fun i _ => ⟨[(13, .d (I i)), (12, .d (I z.length)), (1, .d (.l (K1 3) ((z.map Prod.snd).map AWait.dv) t)), (0, .d (.l (K1 3) ((z.map Prod.fst).map AWait.dv) s))], []⟩) (fun _ _ => True) (fun i _ p c => if AWait.beq p.1 p.2 = true then c () else r) (fun _ => k (.exit 0) ((14, .d (.b false)) :: [(13, .d (I z.length)), (12, .d (I z.length)), (1, .d (.l (K1 3) ((z.map Prod.snd).map AWait.dv) t)), (0, .d (.l (K1 3) ((z.map Prod.fst).map AWait.dv) s))]) []) ?_ ?_ h0 trivial]
 ·rw [rounds_all (fun p => AWait.beq p.1 p.2) r]
  exact fun _ _ _ _ => rfl
 ·intro B _ _ _
  simp [L132_0]
 ·intro B _ i _ hi _ c hc
  have hm := mxl
  have h1 : (i : Int) < z.length := by omega
  have h3 := wr1 (i := i) (by omega)
  have he : eqA [1, 1, 3] (.d (AWait.dv z[i].1)) (.d (AWait.dv z[i].2)) = some (AWait.beq z[i].1 z[i].2) := by
   simp [eqA, eqL, eqK, AWait.dv, AWait.beq, ibq, sbq, Bool.and_assoc]
  simp [L132_0, h1, hi, he]
  repeat' (refine brn_split (fun h => ?_) (fun h => ?_) <;> (try simp at h) <;> (try simp [h, h3]))
  all_goals first
   | exact hr _ _ (by simp [Fr.get]) (by simp [ghosts, gh])
   | exact hc () _ _ trivial (by simp [gc, Fr.keep, reach, frRefs, heapRefs, PV.refs, gcH, PV.ren, Obj.ren, Heap.obj, Fr.ren, gh])
theorem val132 (T : Tab) (hF : T.F 132 = some F132) (x y : List AWait) (s t : Bool) (hn : x.length ≤ maxLen) : T.val 132 [.l (K1 3) (x.map AWait.dv) s, .l (K1 3) (y.map AWait.dv) t] = some (.d (.b (lsb AWait.beq x y)), false) := by
 rw [val_k T hF rfl]
 by_cases hl : x.length = y.length
 ·obtain ⟨z, rfl, rfl⟩ := zip_of x y hl
  rw [lsb_zip]
  have hz : z.length ≤ maxLen := by simpa using hn
  have lp := fun k fr H => @loop132 T.env z s t hz k (some (.d (.b false), false)) fr H
  simp [F132, Fr.ofArgs]
  rw [lp]
  ·split
   ·rename_i hq
    simp only [blK, sqK]
    simp [hq]
   ·rename_i hq
    have hq' : (z.all fun p => AWait.beq p.1 p.2) = false := by simpa using hq
    rw [hq']
  ·intro fr H h1 h2
   simp [h1, h2]
  ·simp [gc, Fr.keep, reach, frRefs, heapRefs, PV.refs, gcH, PV.ren, Obj.ren, Heap.obj, Fr.ren, gh]
 ·rw [lsb_len _ _ hl]
  have hl' : ((x.length : Int) == (y.length : Int)) = false := by simp; omega
  simp [F132, Fr.ofArgs, hl', bne]
theorem loop133 (E : Env) (z : List (AUser × AUser)) (s t : Bool) (hn : z.length ≤ maxLen) {k : KC (PV × Bool)} {r : Option (PV × Bool)} {fr : Fr} {H : Heap} (hr : ∀ fr H, fr.get 4 = .d (.b false) → ghosts fr = [] → k .ret fr H = r)
  (h0 : gc [0, 1, 12, 13] 0 ⟨fr, H⟩ = ⟨[(13, .d (I 0)), (12, .d (I z.length)), (1, .d (.l (K1 3) ((z.map Prod.snd).map AUser.dv) t)), (0, .d (.l (K1 3) ((z.map Prod.fst).map AUser.dv) s))], []⟩) :
  kC E 0 fr H (.h (.loop [0, 1, 12, 13] L133_0, k)) = if (z.all fun p => AUser.beq p.1 p.2) = true then k (.exit 0) ((14, .d (.b false)) :: [(13, .d (I z.length)), (12, .d (I z.length)), (1, .d (.l (K1 3) ((z.map Prod.snd).map AUser.dv) t)), (0, .d (.l (K1 3) ((z.map Prod.fst).map AUser.dv) s))]) [] else r := by
 rw [loop_rounds z (fun i _ => ⟨[(13, .d (I i)), (12, .d (I z.length)), (1, .d (.l (K1 3) ((z.map Prod.snd).map AUser.dv) t)), (0, .d (.l (K1 3) ((z.map Prod.fst).map AUser.dv) s))], []⟩) (fun _ _ => True) (fun i _ p c => if AUser.beq p.1 p.2 = true then c () else r) (fun _ => k (.exit 0) ((14, .d (.b false)) :: [(13, .d (I z.length)), (12, .d (I z.length)), (1, .d (.l (K1 3) ((z.map Prod.snd).map AUser.dv) t)), (0, .d (.l (K1 3) ((z.map Prod.fst).map AUser.dv) s))]) []) ?_ ?_ h0 trivial]
 ·rw [rounds_all (fun p => AUser.beq p.1 p.2) r]
  exact fun _ _ _ _ => rfl
 ·intro B _ _ _
  simp [L133_0]
 ·intro B _ i _ hi _ c hc
  have hm := mxl
  have h1 : (i : Int) < z.length := by omega
  have h3 := wr1 (i := i) (by omega)
  have he : eqA [3, 1, 1] (.d (AUser.dv z[i].1)) (.d (AUser.dv z[i].2)) = some (AUser.beq z[i].1 z[i].2) := by
   simp [eqA, eqL, eqK, AUser.dv, AUser.beq, ibq, sbq, Bool.and_assoc]
  simp [L133_0, h1, hi, he]
  repeat' (refine brn_split (fun h => ?_) (fun h => ?_) <;> (try simp at h) <;> (try simp [h, h3]))
  all_goals first
   | exact hr _ _ (by simp [Fr.get]) (by simp [ghosts, gh])
   | exact hc () _ _ trivial (by simp [gc, Fr.keep, reach, frRefs, heapRefs, PV.refs, gcH, PV.ren, Obj.ren, Heap.obj, Fr.ren, gh])
theorem val133 (T : Tab) (hF : T.F 133 = some F133) (x y : List AUser) (s t : Bool) (hn : x.length ≤ maxLen) : T.val 133 [.l (K1 3) (x.map AUser.dv) s, .l (K1 3) (y.map AUser.dv) t] = some (.d (.b (lsb AUser.beq x y)), false) := by
 rw [val_k T hF rfl]
 by_cases hl : x.length = y.length
 ·obtain ⟨z, rfl, rfl⟩ := zip_of x y hl
  rw [lsb_zip]
  have hz : z.length ≤ maxLen := by simpa using hn
  have lp := fun k fr H => @loop133 T.env z s t hz k (some (.d (.b false), false)) fr H
  simp [F133, Fr.ofArgs]
  rw [lp]
  ·split
   ·rename_i hq
    simp only [blK, sqK]
    simp [hq]
   ·rename_i hq
    have hq' : (z.all fun p => AUser.beq p.1 p.2) = false := by simpa using hq
    rw [hq']
  ·intro fr H h1 h2
   simp [h1, h2]
  ·simp [gc, Fr.keep, reach, frRefs, heapRefs, PV.refs, gcH, PV.ren, Obj.ren, Heap.obj, Fr.ren, gh]
 ·rw [lsb_len _ _ hl]
  have hl' : ((x.length : Int) == (y.length : Int)) = false := by simp; omega
  simp [F133, Fr.ofArgs, hl', bne]
theorem loop136 (E : Env) (z : List (AMark × AMark)) (s t : Bool) (hn : z.length ≤ maxLen) {k : KC (PV × Bool)} {r : Option (PV × Bool)} {fr : Fr} {H : Heap} (hr : ∀ fr H, fr.get 4 = .d (.b false) → ghosts fr = [] → k .ret fr H = r)
  (h0 : gc [0, 1, 12, 13] 0 ⟨fr, H⟩ = ⟨[(13, .d (I 0)), (12, .d (I z.length)), (1, .d (.l (K1 5) ((z.map Prod.snd).map AMark.dv) t)), (0, .d (.l (K1 5) ((z.map Prod.fst).map AMark.dv) s))], []⟩) :
  kC E 0 fr H (.h (.loop [0, 1, 12, 13] L136_0, k)) = if (z.all fun p => AMark.beq p.1 p.2) = true then k (.exit 0) ((14, .d (.b false)) :: [(13, .d (I z.length)), (12, .d (I z.length)), (1, .d (.l (K1 5) ((z.map Prod.snd).map AMark.dv) t)), (0, .d (.l (K1 5) ((z.map Prod.fst).map AMark.dv) s))]) [] else r := by
 rw [loop_rounds z (fun i _ => ⟨[(13, .d (I i)), (12, .d (I z.length)), (1, .d (.l (K1 5) ((z.map Prod.snd).map AMark.dv) t)), (0, .d (.l (K1 5) ((z.map Prod.fst).map AMark.dv) s))], []⟩) (fun _ _ => True) (fun i _ p c => if AMark.beq p.1 p.2 = true then c () else r) (fun _ => k (.exit 0) ((14, .d (.b false)) :: [(13, .d (I z.length)), (12, .d (I z.length)), (1, .d (.l (K1 5) ((z.map Prod.snd).map AMark.dv) t)), (0, .d (.l (K1 5) ((z.map Prod.fst).map AMark.dv) s))]) []) ?_ ?_ h0 trivial]
 ·rw [rounds_all (fun p => AMark.beq p.1 p.2) r]
  exact fun _ _ _ _ => rfl
 ·intro B _ _ _
  simp [L136_0]
 ·intro B _ i _ hi _ c hc
  have hm := mxl
  have h1 : (i : Int) < z.length := by omega
  have h3 := wr1 (i := i) (by omega)
  have he : eqA [1, 3, 3, 3, 1] (.d (AMark.dv z[i].1)) (.d (AMark.dv z[i].2)) = some (AMark.beq z[i].1 z[i].2) := by
   simp [eqA, eqL, eqK, AMark.dv, AMark.beq, ibq, sbq, Bool.and_assoc]
  simp [L136_0, h1, hi, he]
  repeat' (refine brn_split (fun h => ?_) (fun h => ?_) <;> (try simp at h) <;> (try simp [h, h3]))
  all_goals first
   | exact hr _ _ (by simp [Fr.get]) (by simp [ghosts, gh])
   | exact hc () _ _ trivial (by simp [gc, Fr.keep, reach, frRefs, heapRefs, PV.refs, gcH, PV.ren, Obj.ren, Heap.obj, Fr.ren, gh])
theorem val136 (T : Tab) (hF : T.F 136 = some F136) (x y : List AMark) (s t : Bool) (hn : x.length ≤ maxLen) : T.val 136 [.l (K1 5) (x.map AMark.dv) s, .l (K1 5) (y.map AMark.dv) t] = some (.d (.b (lsb AMark.beq x y)), false) := by
 rw [val_k T hF rfl]
 by_cases hl : x.length = y.length
 ·obtain ⟨z, rfl, rfl⟩ := zip_of x y hl
  rw [lsb_zip]
  have hz : z.length ≤ maxLen := by simpa using hn
  have lp := fun k fr H => @loop136 T.env z s t hz k (some (.d (.b false), false)) fr H
  simp [F136, Fr.ofArgs]
  rw [lp]
  ·split
   ·rename_i hq
    simp only [blK, sqK]
    simp [hq]
   ·rename_i hq
    have hq' : (z.all fun p => AMark.beq p.1 p.2) = false := by simpa using hq
    rw [hq']
  ·intro fr H h1 h2
   simp [h1, h2]
  ·simp [gc, Fr.keep, reach, frRefs, heapRefs, PV.refs, gcH, PV.ren, Obj.ren, Heap.obj, Fr.ren, gh]
 ·rw [lsb_len _ _ hl]
  have hl' : ((x.length : Int) == (y.length : Int)) = false := by simp; omega
  simp [F136, Fr.ofArgs, hl', bne]
theorem loop208 (E : Env) (z : List (ACurrency × ACurrency)) (s t : Bool) (hn : z.length ≤ maxLen) {k : KC (PV × Bool)} {r : Option (PV × Bool)} {fr : Fr} {H : Heap} (hr : ∀ fr H, fr.get 4 = .d (.b false) → ghosts fr = [] → k .ret fr H = r)
  (h0 : gc [0, 1, 12, 13] 0 ⟨fr, H⟩ = ⟨[(13, .d (I 0)), (12, .d (I z.length)), (1, .d (.l (K1 2) ((z.map Prod.snd).map ACurrency.dv) t)), (0, .d (.l (K1 2) ((z.map Prod.fst).map ACurrency.dv) s))], []⟩) :
  kC E 0 fr H (.h (.loop [0, 1, 12, 13] L208_0, k)) = if (z.all fun p => ACurrency.beq p.1 p.2) = true then k (.exit 0) ((14, .d (.b false)) :: [(13, .d (I z.length)), (12, .d (I z.length)), (1, .d (.l (K1 2) ((z.map Prod.snd).map ACurrency.dv) t)), (0, .d (.l (K1 2) ((z.map Prod.fst).map ACurrency.dv) s))]) [] else r := by
 rw [loop_rounds z (fun i _ => ⟨[(13, .d (I i)), (12, .d (I z.length)), (1, .d (.l (K1 2) ((z.map Prod.snd).map ACurrency.dv) t)), (0, .d (.l (K1 2) ((z.map Prod.fst).map ACurrency.dv) s))], []⟩) (fun _ _ => True) (fun i _ p c => if ACurrency.beq p.1 p.2 = true then c () else r) (fun _ => k (.exit 0) ((14, .d (.b false)) :: [(13, .d (I z.length)), (12, .d (I z.length)), (1, .d (.l (K1 2) ((z.map Prod.snd).map ACurrency.dv) t)), (0, .d (.l (K1 2) ((z.map Prod.fst).map ACurrency.dv) s))]) []) ?_ ?_ h0 trivial]
 ·rw [rounds_all (fun p => ACurrency.beq p.1 p.2) r]
  exact fun _ _ _ _ => rfl
 ·intro B _ _ _
  simp [L208_0]
 ·intro B _ i _ hi _ c hc
  have hm := mxl
  have h1 : (i : Int) < z.length := by omega
  have h3 := wr1 (i := i) (by omega)
  have he : eqA [3, 1] (.d (ACurrency.dv z[i].1)) (.d (ACurrency.dv z[i].2)) = some (ACurrency.beq z[i].1 z[i].2) := by
   simp [eqA, eqL, eqK, ACurrency.dv, ACurrency.beq, ibq, sbq]
  simp [L208_0, h1, hi, he]
  repeat' (refine brn_split (fun h => ?_) (fun h => ?_) <;> (try simp at h) <;> (try simp [h, h3]))
  all_goals first
   | exact hr _ _ (by simp [Fr.get]) (by simp [ghosts, gh])
   | exact hc () _ _ trivial (by simp [gc, Fr.keep, reach, frRefs, heapRefs, PV.refs, gcH, PV.ren, Obj.ren, Heap.obj, Fr.ren, gh])
theorem val208 (T : Tab) (hF : T.F 208 = some F208) (x y : List ACurrency) (s t : Bool) (hn : x.length ≤ maxLen) : T.val 208 [.l (K1 2) (x.map ACurrency.dv) s, .l (K1 2) (y.map ACurrency.dv) t] = some (.d (.b (lsb ACurrency.beq x y)), false) := by
 rw [val_k T hF rfl]
 by_cases hl : x.length = y.length
 ·obtain ⟨z, rfl, rfl⟩ := zip_of x y hl
  rw [lsb_zip]
  have hz : z.length ≤ maxLen := by simpa using hn
  have lp := fun k fr H => @loop208 T.env z s t hz k (some (.d (.b false), false)) fr H
  simp [F208, Fr.ofArgs]
  rw [lp]
  ·split
   ·rename_i hq
    simp only [blK, sqK]
    simp [hq]
   ·rename_i hq
    have hq' : (z.all fun p => ACurrency.beq p.1 p.2) = false := by simpa using hq
    rw [hq']
  ·intro fr H h1 h2
   simp [h1, h2]
  ·simp [gc, Fr.keep, reach, frRefs, heapRefs, PV.refs, gcH, PV.ren, Obj.ren, Heap.obj, Fr.ren, gh]
 ·rw [lsb_len _ _ hl]
  have hl' : ((x.length : Int) == (y.length : Int)) = false := by simp; omega
  simp [F208, Fr.ofArgs, hl', bne]
theorem loop209 (E : Env) (z : List (AGl × AGl)) (s t : Bool) (hn : z.length ≤ maxLen) {k : KC (PV × Bool)} {r : Option (PV × Bool)} {fr : Fr} {H : Heap} (hr : ∀ fr H, fr.get 4 = .d (.b false) → ghosts fr = [] → k .ret fr H = r)
  (h0 : gc [0, 1, 12, 13] 0 ⟨fr, H⟩ = ⟨[(13, .d (I 0)), (12, .d (I z.length)), (1, .d (.l (K1 4) ((z.map Prod.snd).map AGl.dv) t)), (0, .d (.l (K1 4) ((z.map Prod.fst).map AGl.dv) s))], []⟩) :
  kC E 0 fr H (.h (.loop [0, 1, 12, 13] L209_0, k)) = if (z.all fun p => AGl.beq p.1 p.2) = true then k (.exit 0) ((14, .d (.b false)) :: [(13, .d (I z.length)), (12, .d (I z.length)), (1, .d (.l (K1 4) ((z.map Prod.snd).map AGl.dv) t)), (0, .d (.l (K1 4) ((z.map Prod.fst).map AGl.dv) s))]) [] else r := by
 rw [loop_rounds z (fun i _ => ⟨[(13, .d (I i)), (12, .d (I z.length)), (1, .d (.l (K1 4) ((z.map Prod.snd).map AGl.dv) t)), (0, .d (.l (K1 4) ((z.map Prod.fst).map AGl.dv) s))], []⟩) (fun _ _ => True) (fun i _ p c => if AGl.beq p.1 p.2 = true then c () else r) (fun _ => k (.exit 0) ((14, .d (.b false)) :: [(13, .d (I z.length)), (12, .d (I z.length)), (1, .d (.l (K1 4) ((z.map Prod.snd).map AGl.dv) t)), (0, .d (.l (K1 4) ((z.map Prod.fst).map AGl.dv) s))]) []) ?_ ?_ h0 trivial]
 ·rw [rounds_all (fun p => AGl.beq p.1 p.2) r]
  exact fun _ _ _ _ => rfl
 ·intro B _ _ _
  simp [L209_0]
 ·intro B _ i _ hi _ c hc
  have hm := mxl
  have h1 : (i : Int) < z.length := by omega
  have h3 := wr1 (i := i) (by omega)
  have he : eqA [1, 1, 1, 3] (.d (AGl.dv z[i].1)) (.d (AGl.dv z[i].2)) = some (AGl.beq z[i].1 z[i].2) := by
   simp [eqA, eqL, eqK, AGl.dv, AGl.beq, ibq, sbq, Bool.and_assoc]
  simp [L209_0, h1, hi, he]
  repeat' (refine brn_split (fun h => ?_) (fun h => ?_) <;> (try simp at h) <;> (try simp [h, h3]))
  all_goals first
   | exact hr _ _ (by simp [Fr.get]) (by simp [ghosts, gh])
   | exact hc () _ _ trivial (by simp [gc, Fr.keep, reach, frRefs, heapRefs, PV.refs, gcH, PV.ren, Obj.ren, Heap.obj, Fr.ren, gh])
theorem val209 (T : Tab) (hF : T.F 209 = some F209) (x y : List AGl) (s t : Bool) (hn : x.length ≤ maxLen) : T.val 209 [.l (K1 4) (x.map AGl.dv) s, .l (K1 4) (y.map AGl.dv) t] = some (.d (.b (lsb AGl.beq x y)), false) := by
 rw [val_k T hF rfl]
 by_cases hl : x.length = y.length
 ·obtain ⟨z, rfl, rfl⟩ := zip_of x y hl
  rw [lsb_zip]
  have hz : z.length ≤ maxLen := by simpa using hn
  have lp := fun k fr H => @loop209 T.env z s t hz k (some (.d (.b false), false)) fr H
  simp [F209, Fr.ofArgs]
  rw [lp]
  ·split
   ·rename_i hq
    simp only [blK, sqK]
    simp [hq]
   ·rename_i hq
    have hq' : (z.all fun p => AGl.beq p.1 p.2) = false := by simpa using hq
    rw [hq']
  ·intro fr H h1 h2
   simp [h1, h2]
  ·simp [gc, Fr.keep, reach, frRefs, heapRefs, PV.refs, gcH, PV.ren, Obj.ren, Heap.obj, Fr.ren, gh]
 ·rw [lsb_len _ _ hl]
  have hl' : ((x.length : Int) == (y.length : Int)) = false := by simp; omega
  simp [F209, Fr.ofArgs, hl', bne]
theorem loop210 (E : Env) (z : List (AAccount × AAccount)) (s t : Bool) (hn : z.length ≤ maxLen) {k : KC (PV × Bool)} {r : Option (PV × Bool)} {fr : Fr} {H : Heap} (hr : ∀ fr H, fr.get 4 = .d (.b false) → ghosts fr = [] → k .ret fr H = r)
  (h0 : gc [0, 1, 12, 13] 0 ⟨fr, H⟩ = ⟨[(13, .d (I 0)), (12, .d (I z.length)), (1, .d (.l (K1 7) ((z.map Prod.snd).map AAccount.dv) t)), (0, .d (.l (K1 7) ((z.map Prod.fst).map AAccount.dv) s))], []⟩) :
  kC E 0 fr H (.h (.loop [0, 1, 12, 13] L210_0, k)) = if (z.all fun p => AAccount.beq p.1 p.2) = true then k (.exit 0) ((14, .d (.b false)) :: [(13, .d (I z.length)), (12, .d (I z.length)), (1, .d (.l (K1 7) ((z.map Prod.snd).map AAccount.dv) t)), (0, .d (.l (K1 7) ((z.map Prod.fst).map AAccount.dv) s))]) [] else r := by
 rw [loop_rounds z (fun i _ => ⟨[(13, .d (I i)), (12, .d (I z.length)), (1, .d (.l (K1 7) ((z.map Prod.snd).map AAccount.dv) t)), (0, .d (.l (K1 7) ((z.map Prod.fst).map AAccount.dv) s))], []⟩) (fun _ _ => True) (fun i _ p c => if AAccount.beq p.1 p.2 = true then c () else r) (fun _ => k (.exit 0) ((14, .d (.b false)) :: [(13, .d (I z.length)), (12, .d (I z.length)), (1, .d (.l (K1 7) ((z.map Prod.snd).map AAccount.dv) t)), (0, .d (.l (K1 7) ((z.map Prod.fst).map AAccount.dv) s))]) []) ?_ ?_ h0 trivial]
 ·rw [rounds_all (fun p => AAccount.beq p.1 p.2) r]
  exact fun _ _ _ _ => rfl
 ·intro B _ _ _
  simp [L210_0]
 ·intro B _ i _ hi _ c hc
  have hm := mxl
  have h1 : (i : Int) < z.length := by omega
  have h3 := wr1 (i := i) (by omega)
  have he : eqA [1, 1, 1, 1, 3, 3, 3] (.d (AAccount.dv z[i].1)) (.d (AAccount.dv z[i].2)) = some (AAccount.beq z[i].1 z[i].2) := by
   simp [eqA, eqL, eqK, AAccount.dv, AAccount.beq, ibq, sbq, Bool.and_assoc]
  simp [L210_0, h1, hi, he]
  repeat' (refine brn_split (fun h => ?_) (fun h => ?_) <;> (try simp at h) <;> (try simp [h, h3]))
  all_goals first
   | exact hr _ _ (by simp [Fr.get]) (by simp [ghosts, gh])
   | exact hc () _ _ trivial (by simp [gc, Fr.keep, reach, frRefs, heapRefs, PV.refs, gcH, PV.ren, Obj.ren, Heap.obj, Fr.ren, gh])
theorem val210 (T : Tab) (hF : T.F 210 = some F210) (x y : List AAccount) (s t : Bool) (hn : x.length ≤ maxLen) : T.val 210 [.l (K1 7) (x.map AAccount.dv) s, .l (K1 7) (y.map AAccount.dv) t] = some (.d (.b (lsb AAccount.beq x y)), false) := by
 rw [val_k T hF rfl]
 by_cases hl : x.length = y.length
 ·obtain ⟨z, rfl, rfl⟩ := zip_of x y hl
  rw [lsb_zip]
  have hz : z.length ≤ maxLen := by simpa using hn
  have lp := fun k fr H => @loop210 T.env z s t hz k (some (.d (.b false), false)) fr H
  simp [F210, Fr.ofArgs]
  rw [lp]
  ·split
   ·rename_i hq
    simp only [blK, sqK]
    simp [hq]
   ·rename_i hq
    have hq' : (z.all fun p => AAccount.beq p.1 p.2) = false := by simpa using hq
    rw [hq']
  ·intro fr H h1 h2
   simp [h1, h2]
  ·simp [gc, Fr.keep, reach, frRefs, heapRefs, PV.refs, gcH, PV.ren, Obj.ren, Heap.obj, Fr.ren, gh]
 ·rw [lsb_len _ _ hl]
  have hl' : ((x.length : Int) == (y.length : Int)) = false := by simp; omega
  simp [F210, Fr.ofArgs, hl', bne]
theorem loop211 (E : Env) (z : List (AHold × AHold)) (s t : Bool) (hn : z.length ≤ maxLen) {k : KC (PV × Bool)} {r : Option (PV × Bool)} {fr : Fr} {H : Heap} (hr : ∀ fr H, fr.get 4 = .d (.b false) → ghosts fr = [] → k .ret fr H = r)
  (h0 : gc [0, 1, 12, 13] 0 ⟨fr, H⟩ = ⟨[(13, .d (I 0)), (12, .d (I z.length)), (1, .d (.l (K1 6) ((z.map Prod.snd).map AHold.dv) t)), (0, .d (.l (K1 6) ((z.map Prod.fst).map AHold.dv) s))], []⟩) :
  kC E 0 fr H (.h (.loop [0, 1, 12, 13] L211_0, k)) = if (z.all fun p => AHold.beq p.1 p.2) = true then k (.exit 0) ((14, .d (.b false)) :: [(13, .d (I z.length)), (12, .d (I z.length)), (1, .d (.l (K1 6) ((z.map Prod.snd).map AHold.dv) t)), (0, .d (.l (K1 6) ((z.map Prod.fst).map AHold.dv) s))]) [] else r := by
 rw [loop_rounds z (fun i _ => ⟨[(13, .d (I i)), (12, .d (I z.length)), (1, .d (.l (K1 6) ((z.map Prod.snd).map AHold.dv) t)), (0, .d (.l (K1 6) ((z.map Prod.fst).map AHold.dv) s))], []⟩) (fun _ _ => True) (fun i _ p c => if AHold.beq p.1 p.2 = true then c () else r) (fun _ => k (.exit 0) ((14, .d (.b false)) :: [(13, .d (I z.length)), (12, .d (I z.length)), (1, .d (.l (K1 6) ((z.map Prod.snd).map AHold.dv) t)), (0, .d (.l (K1 6) ((z.map Prod.fst).map AHold.dv) s))]) []) ?_ ?_ h0 trivial]
 ·rw [rounds_all (fun p => AHold.beq p.1 p.2) r]
  exact fun _ _ _ _ => rfl
 ·intro B _ _ _
  simp [L211_0]
 ·intro B _ i _ hi _ c hc
  have hm := mxl
  have h1 : (i : Int) < z.length := by omega
  have h3 := wr1 (i := i) (by omega)
  have he : eqA [1, 1, 1, 1, 1, 3] (.d (AHold.dv z[i].1)) (.d (AHold.dv z[i].2)) = some (AHold.beq z[i].1 z[i].2) := by
   simp [eqA, eqL, eqK, AHold.dv, AHold.beq, ibq, sbq, Bool.and_assoc]
  simp [L211_0, h1, hi, he]
  repeat' (refine brn_split (fun h => ?_) (fun h => ?_) <;> (try simp at h) <;> (try simp [h, h3]))
  all_goals first
   | exact hr _ _ (by simp [Fr.get]) (by simp [ghosts, gh])
   | exact hc () _ _ trivial (by simp [gc, Fr.keep, reach, frRefs, heapRefs, PV.refs, gcH, PV.ren, Obj.ren, Heap.obj, Fr.ren, gh])
theorem val211 (T : Tab) (hF : T.F 211 = some F211) (x y : List AHold) (s t : Bool) (hn : x.length ≤ maxLen) : T.val 211 [.l (K1 6) (x.map AHold.dv) s, .l (K1 6) (y.map AHold.dv) t] = some (.d (.b (lsb AHold.beq x y)), false) := by
 rw [val_k T hF rfl]
 by_cases hl : x.length = y.length
 ·obtain ⟨z, rfl, rfl⟩ := zip_of x y hl
  rw [lsb_zip]
  have hz : z.length ≤ maxLen := by simpa using hn
  have lp := fun k fr H => @loop211 T.env z s t hz k (some (.d (.b false), false)) fr H
  simp [F211, Fr.ofArgs]
  rw [lp]
  ·split
   ·rename_i hq
    simp only [blK, sqK]
    simp [hq]
   ·rename_i hq
    have hq' : (z.all fun p => AHold.beq p.1 p.2) = false := by simpa using hq
    rw [hq']
  ·intro fr H h1 h2
   simp [h1, h2]
  ·simp [gc, Fr.keep, reach, frRefs, heapRefs, PV.refs, gcH, PV.ren, Obj.ren, Heap.obj, Fr.ren, gh]
 ·rw [lsb_len _ _ hl]
  have hl' : ((x.length : Int) == (y.length : Int)) = false := by simp; omega
  simp [F211, Fr.ofArgs, hl', bne]
theorem loop212 (E : Env) (z : List (ABlock × ABlock)) (s t : Bool) (hn : z.length ≤ maxLen) {k : KC (PV × Bool)} {r : Option (PV × Bool)} {fr : Fr} {H : Heap} (hr : ∀ fr H, fr.get 4 = .d (.b false) → ghosts fr = [] → k .ret fr H = r)
  (h0 : gc [0, 1, 12, 13] 0 ⟨fr, H⟩ = ⟨[(13, .d (I 0)), (12, .d (I z.length)), (1, .d (.l (K1 7) ((z.map Prod.snd).map ABlock.dv) t)), (0, .d (.l (K1 7) ((z.map Prod.fst).map ABlock.dv) s))], []⟩) :
  kC E 0 fr H (.h (.loop [0, 1, 12, 13] L212_0, k)) = if (z.all fun p => ABlock.beq p.1 p.2) = true then k (.exit 0) ((14, .d (.b false)) :: [(13, .d (I z.length)), (12, .d (I z.length)), (1, .d (.l (K1 7) ((z.map Prod.snd).map ABlock.dv) t)), (0, .d (.l (K1 7) ((z.map Prod.fst).map ABlock.dv) s))]) [] else r := by
 rw [loop_rounds z (fun i _ => ⟨[(13, .d (I i)), (12, .d (I z.length)), (1, .d (.l (K1 7) ((z.map Prod.snd).map ABlock.dv) t)), (0, .d (.l (K1 7) ((z.map Prod.fst).map ABlock.dv) s))], []⟩) (fun _ _ => True) (fun i _ p c => if ABlock.beq p.1 p.2 = true then c () else r) (fun _ => k (.exit 0) ((14, .d (.b false)) :: [(13, .d (I z.length)), (12, .d (I z.length)), (1, .d (.l (K1 7) ((z.map Prod.snd).map ABlock.dv) t)), (0, .d (.l (K1 7) ((z.map Prod.fst).map ABlock.dv) s))]) []) ?_ ?_ h0 trivial]
 ·rw [rounds_all (fun p => ABlock.beq p.1 p.2) r]
  exact fun _ _ _ _ => rfl
 ·intro B _ _ _
  simp [L212_0]
 ·intro B _ i _ hi _ c hc
  have hm := mxl
  have h1 : (i : Int) < z.length := by omega
  have h3 := wr1 (i := i) (by omega)
  have he : eqA [1, 1, 1, 1, 1, 1, 3] (.d (ABlock.dv z[i].1)) (.d (ABlock.dv z[i].2)) = some (ABlock.beq z[i].1 z[i].2) := by
   simp [eqA, eqL, eqK, ABlock.dv, ABlock.beq, ibq, sbq, Bool.and_assoc]
  simp [L212_0, h1, hi, he]
  repeat' (refine brn_split (fun h => ?_) (fun h => ?_) <;> (try simp at h) <;> (try simp [h, h3]))
  all_goals first
   | exact hr _ _ (by simp [Fr.get]) (by simp [ghosts, gh])
   | exact hc () _ _ trivial (by simp [gc, Fr.keep, reach, frRefs, heapRefs, PV.refs, gcH, PV.ren, Obj.ren, Heap.obj, Fr.ren, gh])
theorem val212 (T : Tab) (hF : T.F 212 = some F212) (x y : List ABlock) (s t : Bool) (hn : x.length ≤ maxLen) : T.val 212 [.l (K1 7) (x.map ABlock.dv) s, .l (K1 7) (y.map ABlock.dv) t] = some (.d (.b (lsb ABlock.beq x y)), false) := by
 rw [val_k T hF rfl]
 by_cases hl : x.length = y.length
 ·obtain ⟨z, rfl, rfl⟩ := zip_of x y hl
  rw [lsb_zip]
  have hz : z.length ≤ maxLen := by simpa using hn
  have lp := fun k fr H => @loop212 T.env z s t hz k (some (.d (.b false), false)) fr H
  simp [F212, Fr.ofArgs]
  rw [lp]
  ·split
   ·rename_i hq
    simp only [blK, sqK]
    simp [hq]
   ·rename_i hq
    have hq' : (z.all fun p => ABlock.beq p.1 p.2) = false := by simpa using hq
    rw [hq']
  ·intro fr H h1 h2
   simp [h1, h2]
  ·simp [gc, Fr.keep, reach, frRefs, heapRefs, PV.refs, gcH, PV.ren, Obj.ren, Heap.obj, Fr.ren, gh]
 ·rw [lsb_len _ _ hl]
  have hl' : ((x.length : Int) == (y.length : Int)) = false := by simp; omega
  simp [F212, Fr.ofArgs, hl', bne]
theorem loop219 (E : Env) (z : List (ADue × ADue)) (s t : Bool) (hn : z.length ≤ maxLen) {k : KC (PV × Bool)} {r : Option (PV × Bool)} {fr : Fr} {H : Heap} (hr : ∀ fr H, fr.get 4 = .d (.b false) → ghosts fr = [] → k .ret fr H = r)
  (h0 : gc [0, 1, 12, 13] 0 ⟨fr, H⟩ = ⟨[(13, .d (I 0)), (12, .d (I z.length)), (1, .d (.l (K1 4) ((z.map Prod.snd).map ADue.dv) t)), (0, .d (.l (K1 4) ((z.map Prod.fst).map ADue.dv) s))], []⟩) :
  kC E 0 fr H (.h (.loop [0, 1, 12, 13] L219_0, k)) = if (z.all fun p => ADue.beq p.1 p.2) = true then k (.exit 0) ((14, .d (.b false)) :: [(13, .d (I z.length)), (12, .d (I z.length)), (1, .d (.l (K1 4) ((z.map Prod.snd).map ADue.dv) t)), (0, .d (.l (K1 4) ((z.map Prod.fst).map ADue.dv) s))]) [] else r := by
 rw [loop_rounds z (fun i _ => ⟨[(13, .d (I i)), (12, .d (I z.length)), (1, .d (.l (K1 4) ((z.map Prod.snd).map ADue.dv) t)), (0, .d (.l (K1 4) ((z.map Prod.fst).map ADue.dv) s))], []⟩) (fun _ _ => True) (fun i _ p c => if ADue.beq p.1 p.2 = true then c () else r) (fun _ => k (.exit 0) ((14, .d (.b false)) :: [(13, .d (I z.length)), (12, .d (I z.length)), (1, .d (.l (K1 4) ((z.map Prod.snd).map ADue.dv) t)), (0, .d (.l (K1 4) ((z.map Prod.fst).map ADue.dv) s))]) []) ?_ ?_ h0 trivial]
 ·rw [rounds_all (fun p => ADue.beq p.1 p.2) r]
  exact fun _ _ _ _ => rfl
 ·intro B _ _ _
  simp [L219_0]
 ·intro B _ i _ hi _ c hc
  have hm := mxl
  have h1 : (i : Int) < z.length := by omega
  have h3 := wr1 (i := i) (by omega)
  have he : eqA [1, 1, 1, 1] (.d (ADue.dv z[i].1)) (.d (ADue.dv z[i].2)) = some (ADue.beq z[i].1 z[i].2) := by
   simp [eqA, eqL, eqK, ADue.dv, ADue.beq, ibq, Bool.and_assoc]
  simp [L219_0, h1, hi, he]
  repeat' (refine brn_split (fun h => ?_) (fun h => ?_) <;> (try simp at h) <;> (try simp [h, h3]))
  all_goals first
   | exact hr _ _ (by simp [Fr.get]) (by simp [ghosts, gh])
   | exact hc () _ _ trivial (by simp [gc, Fr.keep, reach, frRefs, heapRefs, PV.refs, gcH, PV.ren, Obj.ren, Heap.obj, Fr.ren, gh])
theorem val219 (T : Tab) (hF : T.F 219 = some F219) (x y : List ADue) (s t : Bool) (hn : x.length ≤ maxLen) : T.val 219 [.l (K1 4) (x.map ADue.dv) s, .l (K1 4) (y.map ADue.dv) t] = some (.d (.b (lsb ADue.beq x y)), false) := by
 rw [val_k T hF rfl]
 by_cases hl : x.length = y.length
 ·obtain ⟨z, rfl, rfl⟩ := zip_of x y hl
  rw [lsb_zip]
  have hz : z.length ≤ maxLen := by simpa using hn
  have lp := fun k fr H => @loop219 T.env z s t hz k (some (.d (.b false), false)) fr H
  simp [F219, Fr.ofArgs]
  rw [lp]
  ·split
   ·rename_i hq
    simp only [blK, sqK]
    simp [hq]
   ·rename_i hq
    have hq' : (z.all fun p => ADue.beq p.1 p.2) = false := by simpa using hq
    rw [hq']
  ·intro fr H h1 h2
   simp [h1, h2]
  ·simp [gc, Fr.keep, reach, frRefs, heapRefs, PV.refs, gcH, PV.ren, Obj.ren, Heap.obj, Fr.ren, gh]
 ·rw [lsb_len _ _ hl]
  have hl' : ((x.length : Int) == (y.length : Int)) = false := by simp; omega
  simp [F219, Fr.ofArgs, hl', bne]
theorem loop220 (E : Env) (z : List (AChange × AChange)) (s t : Bool) (hn : z.length ≤ maxLen) {k : KC (PV × Bool)} {r : Option (PV × Bool)} {fr : Fr} {H : Heap} (hr : ∀ fr H, fr.get 4 = .d (.b false) → ghosts fr = [] → k .ret fr H = r)
  (h0 : gc [0, 1, 12, 13] 0 ⟨fr, H⟩ = ⟨[(13, .d (I 0)), (12, .d (I z.length)), (1, .d (.l (K1 14) ((z.map Prod.snd).map AChange.dv) t)), (0, .d (.l (K1 14) ((z.map Prod.fst).map AChange.dv) s))], []⟩) :
  kC E 0 fr H (.h (.loop [0, 1, 12, 13] L220_0, k)) = if (z.all fun p => AChange.beq p.1 p.2) = true then k (.exit 0) ((14, .d (.b false)) :: [(13, .d (I z.length)), (12, .d (I z.length)), (1, .d (.l (K1 14) ((z.map Prod.snd).map AChange.dv) t)), (0, .d (.l (K1 14) ((z.map Prod.fst).map AChange.dv) s))]) [] else r := by
 rw [loop_rounds z (fun i _ => ⟨[(13, .d (I i)), (12, .d (I z.length)), (1, .d (.l (K1 14) ((z.map Prod.snd).map AChange.dv) t)), (0, .d (.l (K1 14) ((z.map Prod.fst).map AChange.dv) s))], []⟩) (fun _ _ => True) (fun i _ p c => if AChange.beq p.1 p.2 = true then c () else r) (fun _ => k (.exit 0) ((14, .d (.b false)) :: [(13, .d (I z.length)), (12, .d (I z.length)), (1, .d (.l (K1 14) ((z.map Prod.snd).map AChange.dv) t)), (0, .d (.l (K1 14) ((z.map Prod.fst).map AChange.dv) s))]) []) ?_ ?_ h0 trivial]
 ·rw [rounds_all (fun p => AChange.beq p.1 p.2) r]
  exact fun _ _ _ _ => rfl
 ·intro B _ _ _
  simp [L220_0]
 ·intro B _ i _ hi _ c hc
  have hm := mxl
  have h1 : (i : Int) < z.length := by omega
  have h3 := wr1 (i := i) (by omega)
  have he : eqA [1, 1, 1, 1, 1, 1, 1, 1, 1, 1, 1, 1, 3, 3] (.d (AChange.dv z[i].1)) (.d (AChange.dv z[i].2)) = some (AChange.beq z[i].1 z[i].2) := by
   simp [eqA, eqL, eqK, AChange.dv, AChange.beq, ATerms.beq, ibq, sbq, Bool.and_assoc]
  simp [L220_0, h1, hi, he]
  repeat' (refine brn_split (fun h => ?_) (fun h => ?_) <;> (try simp at h) <;> (try simp [h, h3]))
  all_goals first
   | exact hr _ _ (by simp [Fr.get]) (by simp [ghosts, gh])
   | exact hc () _ _ trivial (by simp [gc, Fr.keep, reach, frRefs, heapRefs, PV.refs, gcH, PV.ren, Obj.ren, Heap.obj, Fr.ren, gh])
theorem val220 (T : Tab) (hF : T.F 220 = some F220) (x y : List AChange) (s t : Bool) (hn : x.length ≤ maxLen) : T.val 220 [.l (K1 14) (x.map AChange.dv) s, .l (K1 14) (y.map AChange.dv) t] = some (.d (.b (lsb AChange.beq x y)), false) := by
 rw [val_k T hF rfl]
 by_cases hl : x.length = y.length
 ·obtain ⟨z, rfl, rfl⟩ := zip_of x y hl
  rw [lsb_zip]
  have hz : z.length ≤ maxLen := by simpa using hn
  have lp := fun k fr H => @loop220 T.env z s t hz k (some (.d (.b false), false)) fr H
  simp [F220, Fr.ofArgs]
  rw [lp]
  ·split
   ·rename_i hq
    simp only [blK, sqK]
    simp [hq]
   ·rename_i hq
    have hq' : (z.all fun p => AChange.beq p.1 p.2) = false := by simpa using hq
    rw [hq']
  ·intro fr H h1 h2
   simp [h1, h2]
  ·simp [gc, Fr.keep, reach, frRefs, heapRefs, PV.refs, gcH, PV.ren, Obj.ren, Heap.obj, Fr.ren, gh]
 ·rw [lsb_len _ _ hl]
  have hl' : ((x.length : Int) == (y.length : Int)) = false := by simp; omega
  simp [F220, Fr.ofArgs, hl', bne]
theorem loop221 (E : Env) (z : List (APosting × APosting)) (s t : Bool) (hn : z.length ≤ maxLen) {k : KC (PV × Bool)} {r : Option (PV × Bool)} {fr : Fr} {H : Heap} (hr : ∀ fr H, fr.get 4 = .d (.b false) → ghosts fr = [] → k .ret fr H = r)
  (h0 : gc [0, 1, 12, 13] 0 ⟨fr, H⟩ = ⟨[(13, .d (I 0)), (12, .d (I z.length)), (1, .d (.l (K1 4) ((z.map Prod.snd).map APosting.dv) t)), (0, .d (.l (K1 4) ((z.map Prod.fst).map APosting.dv) s))], []⟩) :
  kC E 0 fr H (.h (.loop [0, 1, 12, 13] L221_0, k)) = if (z.all fun p => APosting.beq p.1 p.2) = true then k (.exit 0) ((14, .d (.b false)) :: [(13, .d (I z.length)), (12, .d (I z.length)), (1, .d (.l (K1 4) ((z.map Prod.snd).map APosting.dv) t)), (0, .d (.l (K1 4) ((z.map Prod.fst).map APosting.dv) s))]) [] else r := by
 rw [loop_rounds z (fun i _ => ⟨[(13, .d (I i)), (12, .d (I z.length)), (1, .d (.l (K1 4) ((z.map Prod.snd).map APosting.dv) t)), (0, .d (.l (K1 4) ((z.map Prod.fst).map APosting.dv) s))], []⟩) (fun _ _ => True) (fun i _ p c => if APosting.beq p.1 p.2 = true then c () else r) (fun _ => k (.exit 0) ((14, .d (.b false)) :: [(13, .d (I z.length)), (12, .d (I z.length)), (1, .d (.l (K1 4) ((z.map Prod.snd).map APosting.dv) t)), (0, .d (.l (K1 4) ((z.map Prod.fst).map APosting.dv) s))]) []) ?_ ?_ h0 trivial]
 ·rw [rounds_all (fun p => APosting.beq p.1 p.2) r]
  exact fun _ _ _ _ => rfl
 ·intro B _ _ _
  simp [L221_0]
 ·intro B _ i _ hi _ c hc
  have hm := mxl
  have h1 : (i : Int) < z.length := by omega
  have h3 := wr1 (i := i) (by omega)
  have he : eqA [1, 1, 1, 3] (.d (APosting.dv z[i].1)) (.d (APosting.dv z[i].2)) = some (APosting.beq z[i].1 z[i].2) := by
   simp [eqA, eqL, eqK, APosting.dv, APosting.beq, ibq, sbq, Bool.and_assoc]
  simp [L221_0, h1, hi, he]
  repeat' (refine brn_split (fun h => ?_) (fun h => ?_) <;> (try simp at h) <;> (try simp [h, h3]))
  all_goals first
   | exact hr _ _ (by simp [Fr.get]) (by simp [ghosts, gh])
   | exact hc () _ _ trivial (by simp [gc, Fr.keep, reach, frRefs, heapRefs, PV.refs, gcH, PV.ren, Obj.ren, Heap.obj, Fr.ren, gh])
theorem val221 (T : Tab) (hF : T.F 221 = some F221) (x y : List APosting) (s t : Bool) (hn : x.length ≤ maxLen) : T.val 221 [.l (K1 4) (x.map APosting.dv) s, .l (K1 4) (y.map APosting.dv) t] = some (.d (.b (lsb APosting.beq x y)), false) := by
 rw [val_k T hF rfl]
 by_cases hl : x.length = y.length
 ·obtain ⟨z, rfl, rfl⟩ := zip_of x y hl
  rw [lsb_zip]
  have hz : z.length ≤ maxLen := by simpa using hn
  have lp := fun k fr H => @loop221 T.env z s t hz k (some (.d (.b false), false)) fr H
  simp [F221, Fr.ofArgs]
  rw [lp]
  ·split
   ·rename_i hq
    simp only [blK, sqK]
    simp [hq]
   ·rename_i hq
    have hq' : (z.all fun p => APosting.beq p.1 p.2) = false := by simpa using hq
    rw [hq']
  ·intro fr H h1 h2
   simp [h1, h2]
  ·simp [gc, Fr.keep, reach, frRefs, heapRefs, PV.refs, gcH, PV.ren, Obj.ren, Heap.obj, Fr.ren, gh]
 ·rw [lsb_len _ _ hl]
  have hl' : ((x.length : Int) == (y.length : Int)) = false := by simp; omega
  simp [F221, Fr.ofArgs, hl', bne]
theorem loop292 (E : Env) (z : List (Int × Int)) (s t : Bool) (hn : z.length ≤ maxLen) {k : KC (PV × Bool)} {r : Option (PV × Bool)} {fr : Fr} {H : Heap} (hr : ∀ fr H, fr.get 4 = .d (.b false) → ghosts fr = [] → k .ret fr H = r)
  (h0 : gc [0, 1, 12, 13] 0 ⟨fr, H⟩ = ⟨[(13, .d (I 0)), (12, .d (I z.length)), (1, .d (.l K0 ((z.map Prod.snd).map I) t)), (0, .d (.l K0 ((z.map Prod.fst).map I) s))], []⟩) :
  kC E 0 fr H (.h (.loop [0, 1, 12, 13] L292_0, k)) = if (z.all fun p => ibq p.1 p.2) = true then k (.exit 0) ((14, .d (.b false)) :: [(13, .d (I z.length)), (12, .d (I z.length)), (1, .d (.l K0 ((z.map Prod.snd).map I) t)), (0, .d (.l K0 ((z.map Prod.fst).map I) s))]) [] else r := by
 rw [loop_rounds z (fun i _ => ⟨[(13, .d (I i)), (12, .d (I z.length)), (1, .d (.l K0 ((z.map Prod.snd).map I) t)), (0, .d (.l K0 ((z.map Prod.fst).map I) s))], []⟩) (fun _ _ => True) (fun i _ p c => if ibq p.1 p.2 = true then c () else r) (fun _ => k (.exit 0) ((14, .d (.b false)) :: [(13, .d (I z.length)), (12, .d (I z.length)), (1, .d (.l K0 ((z.map Prod.snd).map I) t)), (0, .d (.l K0 ((z.map Prod.fst).map I) s))]) []) ?_ ?_ h0 trivial]
 ·rw [rounds_all (fun p => ibq p.1 p.2) r]
  exact fun _ _ _ _ => rfl
 ·intro B _ _ _
  simp [L292_0]
 ·intro B _ i _ hi _ c hc
  have hm := mxl
  have h1 : (i : Int) < z.length := by omega
  have h3 := wr1 (i := i) (by omega)
  simp [L292_0, h1, hi, ibq]
  repeat' (refine brn_split (fun h => ?_) (fun h => ?_) <;> (try simp at h) <;> (try simp [h, h3]))
  all_goals first
   | exact hr _ _ (by simp [Fr.get]) (by simp [ghosts, gh])
   | exact hc () _ _ trivial (by simp [gc, Fr.keep, reach, frRefs, heapRefs, PV.refs, gcH, PV.ren, Obj.ren, Heap.obj, Fr.ren, gh])
theorem val292 (T : Tab) (hF : T.F 292 = some F292) (x y : List Int) (s t : Bool) (hn : x.length ≤ maxLen) : T.val 292 [.l K0 (x.map I) s, .l K0 (y.map I) t] = some (.d (.b (lsb ibq x y)), false) := by
 rw [val_k T hF rfl]
 by_cases hl : x.length = y.length
 ·obtain ⟨z, rfl, rfl⟩ := zip_of x y hl
  rw [lsb_zip]
  have hz : z.length ≤ maxLen := by simpa using hn
  have lp := fun k fr H => @loop292 T.env z s t hz k (some (.d (.b false), false)) fr H
  simp [F292, Fr.ofArgs]
  rw [lp]
  ·split
   ·rename_i hq
    simp only [blK, sqK]
    simp [hq]
   ·rename_i hq
    have hq' : (z.all fun p => ibq p.1 p.2) = false := by simpa using hq
    rw [hq']
  ·intro fr H h1 h2
   simp [h1, h2]
  ·simp [gc, Fr.keep, reach, frRefs, heapRefs, PV.refs, gcH, PV.ren, Obj.ren, Heap.obj, Fr.ren, gh]
 ·rw [lsb_len _ _ hl]
  have hl' : ((x.length : Int) == (y.length : Int)) = false := by simp; omega
  simp [F292, Fr.ofArgs, hl', bne]
theorem loop299 (E : Env) (z : List (ALeg × ALeg)) (s t : Bool) (hn : z.length ≤ maxLen) {k : KC (PV × Bool)} {r : Option (PV × Bool)} {fr : Fr} {H : Heap} (hr : ∀ fr H, fr.get 4 = .d (.b false) → ghosts fr = [] → k .ret fr H = r)
  (h0 : gc [0, 1, 12, 13] 0 ⟨fr, H⟩ = ⟨[(13, .d (I 0)), (12, .d (I z.length)), (1, .d (.l (K1 3) ((z.map Prod.snd).map ALeg.dv) t)), (0, .d (.l (K1 3) ((z.map Prod.fst).map ALeg.dv) s))], []⟩) :
  kC E 0 fr H (.h (.loop [0, 1, 12, 13] L299_0, k)) = if (z.all fun p => ALeg.beq p.1 p.2) = true then k (.exit 0) ((14, .d (.b false)) :: [(13, .d (I z.length)), (12, .d (I z.length)), (1, .d (.l (K1 3) ((z.map Prod.snd).map ALeg.dv) t)), (0, .d (.l (K1 3) ((z.map Prod.fst).map ALeg.dv) s))]) [] else r := by
 rw [loop_rounds z (fun i _ => ⟨[(13, .d (I i)), (12, .d (I z.length)), (1, .d (.l (K1 3) ((z.map Prod.snd).map ALeg.dv) t)), (0, .d (.l (K1 3) ((z.map Prod.fst).map ALeg.dv) s))], []⟩) (fun _ _ => True) (fun i _ p c => if ALeg.beq p.1 p.2 = true then c () else r) (fun _ => k (.exit 0) ((14, .d (.b false)) :: [(13, .d (I z.length)), (12, .d (I z.length)), (1, .d (.l (K1 3) ((z.map Prod.snd).map ALeg.dv) t)), (0, .d (.l (K1 3) ((z.map Prod.fst).map ALeg.dv) s))]) []) ?_ ?_ h0 trivial]
 ·rw [rounds_all (fun p => ALeg.beq p.1 p.2) r]
  exact fun _ _ _ _ => rfl
 ·intro B _ _ _
  simp [L299_0]
 ·intro B _ i _ hi _ c hc
  have hm := mxl
  have h1 : (i : Int) < z.length := by omega
  have h3 := wr1 (i := i) (by omega)
  have he : eqA [1, 1, 3] (.d (ALeg.dv z[i].1)) (.d (ALeg.dv z[i].2)) = some (ALeg.beq z[i].1 z[i].2) := by
   simp [eqA, eqL, eqK, ALeg.dv, ALeg.beq, ibq, sbq, Bool.and_assoc]
  simp [L299_0, h1, hi, he]
  repeat' (refine brn_split (fun h => ?_) (fun h => ?_) <;> (try simp at h) <;> (try simp [h, h3]))
  all_goals first
   | exact hr _ _ (by simp [Fr.get]) (by simp [ghosts, gh])
   | exact hc () _ _ trivial (by simp [gc, Fr.keep, reach, frRefs, heapRefs, PV.refs, gcH, PV.ren, Obj.ren, Heap.obj, Fr.ren, gh])
theorem val299 (T : Tab) (hF : T.F 299 = some F299) (x y : List ALeg) (s t : Bool) (hn : x.length ≤ maxLen) : T.val 299 [.l (K1 3) (x.map ALeg.dv) s, .l (K1 3) (y.map ALeg.dv) t] = some (.d (.b (lsb ALeg.beq x y)), false) := by
 rw [val_k T hF rfl]
 by_cases hl : x.length = y.length
 ·obtain ⟨z, rfl, rfl⟩ := zip_of x y hl
  rw [lsb_zip]
  have hz : z.length ≤ maxLen := by simpa using hn
  have lp := fun k fr H => @loop299 T.env z s t hz k (some (.d (.b false), false)) fr H
  simp [F299, Fr.ofArgs]
  rw [lp]
  ·split
   ·rename_i hq
    simp only [blK, sqK]
    simp [hq]
   ·rename_i hq
    have hq' : (z.all fun p => ALeg.beq p.1 p.2) = false := by simpa using hq
    rw [hq']
  ·intro fr H h1 h2
   simp [h1, h2]
  ·simp [gc, Fr.keep, reach, frRefs, heapRefs, PV.refs, gcH, PV.ren, Obj.ren, Heap.obj, Fr.ren, gh]
 ·rw [lsb_len _ _ hl]
  have hl' : ((x.length : Int) == (y.length : Int)) = false := by simp; omega
  simp [F299, Fr.ofArgs, hl', bne]
end Go.Sim
end
section
namespace Go.Sim
set_option maxRecDepth 10000
theorem loop123 (T : Tab) (g : Nat) (bq : ALoan → ALoan → Bool) (H0 : Heap) (hH : Cl H0) (z : List (ALoan × ALoan)) (hv : ∀ p ∈ z, T.val g [ALoan.dv p.1, ALoan.dv p.2] = some (.d (.b (bq p.1 p.2)), false)) (s t : Bool) (hn : z.length ≤ maxLen) {k : KC (PV × Heap)} {r : Option (PV × Heap)} {fr : Fr} {H : Heap} (hr : ∀ fr J, fr.get 6 = .d (.b false) → ghosts fr = [] → k .ret fr (H0 ++ J) = r)
  (h0 : gc [1, 2, 15, 16, 17] H0.length ⟨fr, H⟩ = ⟨[(17, .d (I 0)), (16, .d (I z.length)), (15, .d (.l (K1 25) ((z.map Prod.fst).map ALoan.dv) s)), (2, .f g []), (1, .d (.l (K1 25) ((z.map Prod.snd).map ALoan.dv) t))], H0⟩) :
  kC T.env H0.length fr H (.h (.loop [1, 2, 15, 16, 17] L123_0, k)) = if (z.all fun p => bq p.1 p.2) = true then k (.exit 0) ((18, .d (.b false)) :: [(17, .d (I z.length)), (16, .d (I z.length)), (15, .d (.l (K1 25) ((z.map Prod.fst).map ALoan.dv) s)), (2, .f g []), (1, .d (.l (K1 25) ((z.map Prod.snd).map ALoan.dv) t))]) H0 else r := by
 rw [loop_rounds z (fun i _ => ⟨[(17, .d (I i)), (16, .d (I z.length)), (15, .d (.l (K1 25) ((z.map Prod.fst).map ALoan.dv) s)), (2, .f g []), (1, .d (.l (K1 25) ((z.map Prod.snd).map ALoan.dv) t))], H0⟩) (fun _ _ => True) (fun i _ p c => if bq p.1 p.2 = true then c () else r) (fun _ => k (.exit 0) ((18, .d (.b false)) :: [(17, .d (I z.length)), (16, .d (I z.length)), (15, .d (.l (K1 25) ((z.map Prod.fst).map ALoan.dv) s)), (2, .f g []), (1, .d (.l (K1 25) ((z.map Prod.snd).map ALoan.dv) t))]) H0) ?_ ?_ h0 trivial]
 ·rw [rounds_all (fun p => bq p.1 p.2) r]
  exact fun _ _ _ _ => rfl
 ·intro B _ _ _
  simp [L123_0]
 ·intro B _ i _ hi _ c hc
  have hm := mxl
  have h1 : (i : Int) < z.length := by omega
  have h3 := wr1 (i := i) (by omega)
  have he := hv z[i] (List.getElem_mem hi)
  simp [L123_0, h1, hi, he, put_app, put_app0, obj_app, obj_app0, put_0, put_s]
  repeat' (refine brn_split (fun h => ?_) (fun h => ?_) <;> (try simp at h) <;> (try simp [h, h3]))
  all_goals first
   | exact hr _ _ (by simp [Fr.get]) (by simp [ghosts, gh])
   | (refine hc () _ _ trivial ?_; rw [gc_low _ hH (by simp [frRefs, Fr.keep, PV.refs, PV.refsL, gh])]; simp [Fr.keep, gh])
theorem ref123 (T : Tab) (hF : T.F 123 = some F123) (g : Nat) (bq : ALoan → ALoan → Bool) (H0 : Heap) (hH : Cl H0) (x y : List ALoan) (hv : ∀ a ∈ x, ∀ b ∈ y, T.val g [ALoan.dv a, ALoan.dv b] = some (.d (.b (bq a b)), false)) (s t : Bool) (hn : x.length ≤ maxLen) : T.ref 123 [.d (.l (K1 25) (x.map ALoan.dv) s), .d (.l (K1 25) (y.map ALoan.dv) t), .f g []] H0 = some (.d (.b (lsb bq x y)), H0) := by
 rw [ref_k T hF rfl]
 by_cases hl : x.length = y.length
 ·obtain ⟨z, rfl, rfl⟩ := zip_of x y hl
  rw [lsb_zip]
  have hz : z.length ≤ maxLen := by simpa using hn
  have lp := fun k fr H => @loop123 T g bq H0 hH z (fun p hp => hv _ (List.mem_map_of_mem hp) _ (List.mem_map_of_mem hp)) s t hz k (some (.d (.b false), H0)) fr H
  simp [F123, Fr.ofArgs]
  rw [lp]
  ·split
   ·rename_i hq
    simp only [blK, sqK]
    simp [hq, finR_ret, gcVd0 hH]
   ·rename_i hq
    have hq' : (z.all fun p => bq p.1 p.2) = false := by simpa using hq
    rw [hq']
  ·intro fr J h1 h2
   simp [h1, h2, finR_ret, gcVd hH]
  ·rw [gc_low0 _ hH (by simp [frRefs, Fr.keep, PV.refs, PV.refsL, gh])]
   simp [Fr.keep, gh]
 ·rw [lsb_len _ _ hl]
  have hl' : ((x.length : Int) == (y.length : Int)) = false := by simp; omega
  simp [F123, Fr.ofArgs, hl', bne, finR_ret, gcVd0 hH]
theorem loop129 (T : Tab) (g : Nat) (bq : AStatement → AStatement → Bool) (H0 : Heap) (hH : Cl H0) (z : List (AStatement × AStatement)) (hv : ∀ p ∈ z, T.val g [AStatement.dv p.1, AStatement.dv p.2] = some (.d (.b (bq p.1 p.2)), false)) (s t : Bool) (hn : z.length ≤ maxLen) {k : KC (PV × Heap)} {r : Option (PV × Heap)} {fr : Fr} {H : Heap} (hr : ∀ fr J, fr.get 6 = .d (.b false) → ghosts fr = [] → k .ret fr (H0 ++ J) = r)
  (h0 : gc [1, 2, 15, 16, 17] H0.length ⟨fr, H⟩ = ⟨[(17, .d (I 0)), (16, .d (I z.length)), (15, .d (.l (K1 7) ((z.map Prod.fst).map AStatement.dv) s)), (2, .f g []), (1, .d (.l (K1 7) ((z.map Prod.snd).map AStatement.dv) t))], H0⟩) :
  kC T.env H0.length fr H (.h (.loop [1, 2, 15, 16, 17] L129_0, k)) = if (z.all fun p => bq p.1 p.2) = true then k (.exit 0) ((18, .d (.b false)) :: [(17, .d (I z.length)), (16, .d (I z.length)), (15, .d (.l (K1 7) ((z.map Prod.fst).map AStatement.dv) s)), (2, .f g []), (1, .d (.l (K1 7) ((z.map Prod.snd).map AStatement.dv) t))]) H0 else r := by
 rw [loop_rounds z (fun i _ => ⟨[(17, .d (I i)), (16, .d (I z.length)), (15, .d (.l (K1 7) ((z.map Prod.fst).map AStatement.dv) s)), (2, .f g []), (1, .d (.l (K1 7) ((z.map Prod.snd).map AStatement.dv) t))], H0⟩) (fun _ _ => True) (fun i _ p c => if bq p.1 p.2 = true then c () else r) (fun _ => k (.exit 0) ((18, .d (.b false)) :: [(17, .d (I z.length)), (16, .d (I z.length)), (15, .d (.l (K1 7) ((z.map Prod.fst).map AStatement.dv) s)), (2, .f g []), (1, .d (.l (K1 7) ((z.map Prod.snd).map AStatement.dv) t))]) H0) ?_ ?_ h0 trivial]
 ·rw [rounds_all (fun p => bq p.1 p.2) r]
  exact fun _ _ _ _ => rfl
 ·intro B _ _ _
  simp [L129_0]
 ·intro B _ i _ hi _ c hc
  have hm := mxl
  have h1 : (i : Int) < z.length := by omega
  have h3 := wr1 (i := i) (by omega)
  have he := hv z[i] (List.getElem_mem hi)
  simp [L129_0, h1, hi, he, put_app, put_app0, obj_app, obj_app0, put_0, put_s]
  repeat' (refine brn_split (fun h => ?_) (fun h => ?_) <;> (try simp at h) <;> (try simp [h, h3]))
  all_goals first
   | exact hr _ _ (by simp [Fr.get]) (by simp [ghosts, gh])
   | (refine hc () _ _ trivial ?_; rw [gc_low _ hH (by simp [frRefs, Fr.keep, PV.refs, PV.refsL, gh])]; simp [Fr.keep, gh])
theorem ref129 (T : Tab) (hF : T.F 129 = some F129) (g : Nat) (bq : AStatement → AStatement → Bool) (H0 : Heap) (hH : Cl H0) (x y : List AStatement) (hv : ∀ a ∈ x, ∀ b ∈ y, T.val g [AStatement.dv a, AStatement.dv b] = some (.d (.b (bq a b)), false)) (s t : Bool) (hn : x.length ≤ maxLen) : T.ref 129 [.d (.l (K1 7) (x.map AStatement.dv) s), .d (.l (K1 7) (y.map AStatement.dv) t), .f g []] H0 = some (.d (.b (lsb bq x y)), H0) := by
 rw [ref_k T hF rfl]
 by_cases hl : x.length = y.length
 ·obtain ⟨z, rfl, rfl⟩ := zip_of x y hl
  rw [lsb_zip]
  have hz : z.length ≤ maxLen := by simpa using hn
  have lp := fun k fr H => @loop129 T g bq H0 hH z (fun p hp => hv _ (List.mem_map_of_mem hp) _ (List.mem_map_of_mem hp)) s t hz k (some (.d (.b false), H0)) fr H
  simp [F129, Fr.ofArgs]
  rw [lp]
  ·split
   ·rename_i hq
    simp only [blK, sqK]
    simp [hq, finR_ret, gcVd0 hH]
   ·rename_i hq
    have hq' : (z.all fun p => bq p.1 p.2) = false := by simpa using hq
    rw [hq']
  ·intro fr J h1 h2
   simp [h1, h2, finR_ret, gcVd hH]
  ·rw [gc_low0 _ hH (by simp [frRefs, Fr.keep, PV.refs, PV.refsL, gh])]
   simp [Fr.keep, gh]
 ·rw [lsb_len _ _ hl]
  have hl' : ((x.length : Int) == (y.length : Int)) = false := by simp; omega
  simp [F129, Fr.ofArgs, hl', bne, finR_ret, gcVd0 hH]
theorem loop134 (T : Tab) (g : Nat) (bq : ARequest → ARequest → Bool) (H0 : Heap) (hH : Cl H0) (z : List (ARequest × ARequest)) (hv : ∀ p ∈ z, T.val g [ARequest.dv p.1, ARequest.dv p.2] = some (.d (.b (bq p.1 p.2)), false)) (s t : Bool) (hn : z.length ≤ maxLen) {k : KC (PV × Heap)} {r : Option (PV × Heap)} {fr : Fr} {H : Heap} (hr : ∀ fr J, fr.get 6 = .d (.b false) → ghosts fr = [] → k .ret fr (H0 ++ J) = r)
  (h0 : gc [1, 2, 15, 16, 17] H0.length ⟨fr, H⟩ = ⟨[(17, .d (I 0)), (16, .d (I z.length)), (15, .d (.l (K1 35) ((z.map Prod.fst).map ARequest.dv) s)), (2, .f g []), (1, .d (.l (K1 35) ((z.map Prod.snd).map ARequest.dv) t))], H0⟩) :
  kC T.env H0.length fr H (.h (.loop [1, 2, 15, 16, 17] L134_0, k)) = if (z.all fun p => bq p.1 p.2) = true then k (.exit 0) ((18, .d (.b false)) :: [(17, .d (I z.length)), (16, .d (I z.length)), (15, .d (.l (K1 35) ((z.map Prod.fst).map ARequest.dv) s)), (2, .f g []), (1, .d (.l (K1 35) ((z.map Prod.snd).map ARequest.dv) t))]) H0 else r := by
 rw [loop_rounds z (fun i _ => ⟨[(17, .d (I i)), (16, .d (I z.length)), (15, .d (.l (K1 35) ((z.map Prod.fst).map ARequest.dv) s)), (2, .f g []), (1, .d (.l (K1 35) ((z.map Prod.snd).map ARequest.dv) t))], H0⟩) (fun _ _ => True) (fun i _ p c => if bq p.1 p.2 = true then c () else r) (fun _ => k (.exit 0) ((18, .d (.b false)) :: [(17, .d (I z.length)), (16, .d (I z.length)), (15, .d (.l (K1 35) ((z.map Prod.fst).map ARequest.dv) s)), (2, .f g []), (1, .d (.l (K1 35) ((z.map Prod.snd).map ARequest.dv) t))]) H0) ?_ ?_ h0 trivial]
 ·rw [rounds_all (fun p => bq p.1 p.2) r]
  exact fun _ _ _ _ => rfl
 ·intro B _ _ _
  simp [L134_0]
 ·intro B _ i _ hi _ c hc
  have hm := mxl
  have h1 : (i : Int) < z.length := by omega
  have h3 := wr1 (i := i) (by omega)
  have he := hv z[i] (List.getElem_mem hi)
  simp [L134_0, h1, hi, he, put_app, put_app0, obj_app, obj_app0, put_0, put_s]
  repeat' (refine brn_split (fun h => ?_) (fun h => ?_) <;> (try simp at h) <;> (try simp [h, h3]))
  all_goals first
   | exact hr _ _ (by simp [Fr.get]) (by simp [ghosts, gh])
   | (refine hc () _ _ trivial ?_; rw [gc_low _ hH (by simp [frRefs, Fr.keep, PV.refs, PV.refsL, gh])]; simp [Fr.keep, gh])
theorem ref134 (T : Tab) (hF : T.F 134 = some F134) (g : Nat) (bq : ARequest → ARequest → Bool) (H0 : Heap) (hH : Cl H0) (x y : List ARequest) (hv : ∀ a ∈ x, ∀ b ∈ y, T.val g [ARequest.dv a, ARequest.dv b] = some (.d (.b (bq a b)), false)) (s t : Bool) (hn : x.length ≤ maxLen) : T.ref 134 [.d (.l (K1 35) (x.map ARequest.dv) s), .d (.l (K1 35) (y.map ARequest.dv) t), .f g []] H0 = some (.d (.b (lsb bq x y)), H0) := by
 rw [ref_k T hF rfl]
 by_cases hl : x.length = y.length
 ·obtain ⟨z, rfl, rfl⟩ := zip_of x y hl
  rw [lsb_zip]
  have hz : z.length ≤ maxLen := by simpa using hn
  have lp := fun k fr H => @loop134 T g bq H0 hH z (fun p hp => hv _ (List.mem_map_of_mem hp) _ (List.mem_map_of_mem hp)) s t hz k (some (.d (.b false), H0)) fr H
  simp [F134, Fr.ofArgs]
  rw [lp]
  ·split
   ·rename_i hq
    simp only [blK, sqK]
    simp [hq, finR_ret, gcVd0 hH]
   ·rename_i hq
    have hq' : (z.all fun p => bq p.1 p.2) = false := by simpa using hq
    rw [hq']
  ·intro fr J h1 h2
   simp [h1, h2, finR_ret, gcVd hH]
  ·rw [gc_low0 _ hH (by simp [frRefs, Fr.keep, PV.refs, PV.refsL, gh])]
   simp [Fr.keep, gh]
 ·rw [lsb_len _ _ hl]
  have hl' : ((x.length : Int) == (y.length : Int)) = false := by simp; omega
  simp [F134, Fr.ofArgs, hl', bne, finR_ret, gcVd0 hH]
theorem loop213 (T : Tab) (g : Nat) (bq : ACalendar → ACalendar → Bool) (H0 : Heap) (hH : Cl H0) (z : List (ACalendar × ACalendar)) (hv : ∀ p ∈ z, T.val g [ACalendar.dv p.1, ACalendar.dv p.2] = some (.d (.b (bq p.1 p.2)), false)) (s t : Bool) (hn : z.length ≤ maxLen) {k : KC (PV × Heap)} {r : Option (PV × Heap)} {fr : Fr} {H : Heap} (hr : ∀ fr J, fr.get 6 = .d (.b false) → ghosts fr = [] → k .ret fr (H0 ++ J) = r)
  (h0 : gc [1, 2, 15, 16, 17] H0.length ⟨fr, H⟩ = ⟨[(17, .d (I 0)), (16, .d (I z.length)), (15, .d (.l (K1 3) ((z.map Prod.fst).map ACalendar.dv) s)), (2, .f g []), (1, .d (.l (K1 3) ((z.map Prod.snd).map ACalendar.dv) t))], H0⟩) :
  kC T.env H0.length fr H (.h (.loop [1, 2, 15, 16, 17] L213_0, k)) = if (z.all fun p => bq p.1 p.2) = true then k (.exit 0) ((18, .d (.b false)) :: [(17, .d (I z.length)), (16, .d (I z.length)), (15, .d (.l (K1 3) ((z.map Prod.fst).map ACalendar.dv) s)), (2, .f g []), (1, .d (.l (K1 3) ((z.map Prod.snd).map ACalendar.dv) t))]) H0 else r := by
 rw [loop_rounds z (fun i _ => ⟨[(17, .d (I i)), (16, .d (I z.length)), (15, .d (.l (K1 3) ((z.map Prod.fst).map ACalendar.dv) s)), (2, .f g []), (1, .d (.l (K1 3) ((z.map Prod.snd).map ACalendar.dv) t))], H0⟩) (fun _ _ => True) (fun i _ p c => if bq p.1 p.2 = true then c () else r) (fun _ => k (.exit 0) ((18, .d (.b false)) :: [(17, .d (I z.length)), (16, .d (I z.length)), (15, .d (.l (K1 3) ((z.map Prod.fst).map ACalendar.dv) s)), (2, .f g []), (1, .d (.l (K1 3) ((z.map Prod.snd).map ACalendar.dv) t))]) H0) ?_ ?_ h0 trivial]
 ·rw [rounds_all (fun p => bq p.1 p.2) r]
  exact fun _ _ _ _ => rfl
 ·intro B _ _ _
  simp [L213_0]
 ·intro B _ i _ hi _ c hc
  have hm := mxl
  have h1 : (i : Int) < z.length := by omega
  have h3 := wr1 (i := i) (by omega)
  have he := hv z[i] (List.getElem_mem hi)
  simp [L213_0, h1, hi, he, put_app, put_app0, obj_app, obj_app0, put_0, put_s]
  repeat' (refine brn_split (fun h => ?_) (fun h => ?_) <;> (try simp at h) <;> (try simp [h, h3]))
  all_goals first
   | exact hr _ _ (by simp [Fr.get]) (by simp [ghosts, gh])
   | (refine hc () _ _ trivial ?_; rw [gc_low _ hH (by simp [frRefs, Fr.keep, PV.refs, PV.refsL, gh])]; simp [Fr.keep, gh])
theorem ref213 (T : Tab) (hF : T.F 213 = some F213) (g : Nat) (bq : ACalendar → ACalendar → Bool) (H0 : Heap) (hH : Cl H0) (x y : List ACalendar) (hv : ∀ a ∈ x, ∀ b ∈ y, T.val g [ACalendar.dv a, ACalendar.dv b] = some (.d (.b (bq a b)), false)) (s t : Bool) (hn : x.length ≤ maxLen) : T.ref 213 [.d (.l (K1 3) (x.map ACalendar.dv) s), .d (.l (K1 3) (y.map ACalendar.dv) t), .f g []] H0 = some (.d (.b (lsb bq x y)), H0) := by
 rw [ref_k T hF rfl]
 by_cases hl : x.length = y.length
 ·obtain ⟨z, rfl, rfl⟩ := zip_of x y hl
  rw [lsb_zip]
  have hz : z.length ≤ maxLen := by simpa using hn
  have lp := fun k fr H => @loop213 T g bq H0 hH z (fun p hp => hv _ (List.mem_map_of_mem hp) _ (List.mem_map_of_mem hp)) s t hz k (some (.d (.b false), H0)) fr H
  simp [F213, Fr.ofArgs]
  rw [lp]
  ·split
   ·rename_i hq
    simp only [blK, sqK]
    simp [hq, finR_ret, gcVd0 hH]
   ·rename_i hq
    have hq' : (z.all fun p => bq p.1 p.2) = false := by simpa using hq
    rw [hq']
  ·intro fr J h1 h2
   simp [h1, h2, finR_ret, gcVd hH]
  ·rw [gc_low0 _ hH (by simp [frRefs, Fr.keep, PV.refs, PV.refsL, gh])]
   simp [Fr.keep, gh]
 ·rw [lsb_len _ _ hl]
  have hl' : ((x.length : Int) == (y.length : Int)) = false := by simp; omega
  simp [F213, Fr.ofArgs, hl', bne, finR_ret, gcVd0 hH]
theorem loop215 (T : Tab) (g : Nat) (bq : AProduct → AProduct → Bool) (H0 : Heap) (hH : Cl H0) (z : List (AProduct × AProduct)) (hv : ∀ p ∈ z, T.val g [AProduct.dv p.1, AProduct.dv p.2] = some (.d (.b (bq p.1 p.2)), false)) (s t : Bool) (hn : z.length ≤ maxLen) {k : KC (PV × Heap)} {r : Option (PV × Heap)} {fr : Fr} {H : Heap} (hr : ∀ fr J, fr.get 6 = .d (.b false) → ghosts fr = [] → k .ret fr (H0 ++ J) = r)
  (h0 : gc [1, 2, 15, 16, 17] H0.length ⟨fr, H⟩ = ⟨[(17, .d (I 0)), (16, .d (I z.length)), (15, .d (.l (K1 19) ((z.map Prod.fst).map AProduct.dv) s)), (2, .f g []), (1, .d (.l (K1 19) ((z.map Prod.snd).map AProduct.dv) t))], H0⟩) :
  kC T.env H0.length fr H (.h (.loop [1, 2, 15, 16, 17] L215_0, k)) = if (z.all fun p => bq p.1 p.2) = true then k (.exit 0) ((18, .d (.b false)) :: [(17, .d (I z.length)), (16, .d (I z.length)), (15, .d (.l (K1 19) ((z.map Prod.fst).map AProduct.dv) s)), (2, .f g []), (1, .d (.l (K1 19) ((z.map Prod.snd).map AProduct.dv) t))]) H0 else r := by
 rw [loop_rounds z (fun i _ => ⟨[(17, .d (I i)), (16, .d (I z.length)), (15, .d (.l (K1 19) ((z.map Prod.fst).map AProduct.dv) s)), (2, .f g []), (1, .d (.l (K1 19) ((z.map Prod.snd).map AProduct.dv) t))], H0⟩) (fun _ _ => True) (fun i _ p c => if bq p.1 p.2 = true then c () else r) (fun _ => k (.exit 0) ((18, .d (.b false)) :: [(17, .d (I z.length)), (16, .d (I z.length)), (15, .d (.l (K1 19) ((z.map Prod.fst).map AProduct.dv) s)), (2, .f g []), (1, .d (.l (K1 19) ((z.map Prod.snd).map AProduct.dv) t))]) H0) ?_ ?_ h0 trivial]
 ·rw [rounds_all (fun p => bq p.1 p.2) r]
  exact fun _ _ _ _ => rfl
 ·intro B _ _ _
  simp [L215_0]
 ·intro B _ i _ hi _ c hc
  have hm := mxl
  have h1 : (i : Int) < z.length := by omega
  have h3 := wr1 (i := i) (by omega)
  have he := hv z[i] (List.getElem_mem hi)
  simp [L215_0, h1, hi, he, put_app, put_app0, obj_app, obj_app0, put_0, put_s]
  repeat' (refine brn_split (fun h => ?_) (fun h => ?_) <;> (try simp at h) <;> (try simp [h, h3]))
  all_goals first
   | exact hr _ _ (by simp [Fr.get]) (by simp [ghosts, gh])
   | (refine hc () _ _ trivial ?_; rw [gc_low _ hH (by simp [frRefs, Fr.keep, PV.refs, PV.refsL, gh])]; simp [Fr.keep, gh])
theorem ref215 (T : Tab) (hF : T.F 215 = some F215) (g : Nat) (bq : AProduct → AProduct → Bool) (H0 : Heap) (hH : Cl H0) (x y : List AProduct) (hv : ∀ a ∈ x, ∀ b ∈ y, T.val g [AProduct.dv a, AProduct.dv b] = some (.d (.b (bq a b)), false)) (s t : Bool) (hn : x.length ≤ maxLen) : T.ref 215 [.d (.l (K1 19) (x.map AProduct.dv) s), .d (.l (K1 19) (y.map AProduct.dv) t), .f g []] H0 = some (.d (.b (lsb bq x y)), H0) := by
 rw [ref_k T hF rfl]
 by_cases hl : x.length = y.length
 ·obtain ⟨z, rfl, rfl⟩ := zip_of x y hl
  rw [lsb_zip]
  have hz : z.length ≤ maxLen := by simpa using hn
  have lp := fun k fr H => @loop215 T g bq H0 hH z (fun p hp => hv _ (List.mem_map_of_mem hp) _ (List.mem_map_of_mem hp)) s t hz k (some (.d (.b false), H0)) fr H
  simp [F215, Fr.ofArgs]
  rw [lp]
  ·split
   ·rename_i hq
    simp only [blK, sqK]
    simp [hq, finR_ret, gcVd0 hH]
   ·rename_i hq
    have hq' : (z.all fun p => bq p.1 p.2) = false := by simpa using hq
    rw [hq']
  ·intro fr J h1 h2
   simp [h1, h2, finR_ret, gcVd hH]
  ·rw [gc_low0 _ hH (by simp [frRefs, Fr.keep, PV.refs, PV.refsL, gh])]
   simp [Fr.keep, gh]
 ·rw [lsb_len _ _ hl]
  have hl' : ((x.length : Int) == (y.length : Int)) = false := by simp; omega
  simp [F215, Fr.ofArgs, hl', bne, finR_ret, gcVd0 hH]
theorem loop217 (T : Tab) (g : Nat) (bq : AEntry → AEntry → Bool) (H0 : Heap) (hH : Cl H0) (z : List (AEntry × AEntry)) (hv : ∀ p ∈ z, T.val g [AEntry.dv p.1, AEntry.dv p.2] = some (.d (.b (bq p.1 p.2)), false)) (s t : Bool) (hn : z.length ≤ maxLen) {k : KC (PV × Heap)} {r : Option (PV × Heap)} {fr : Fr} {H : Heap} (hr : ∀ fr J, fr.get 6 = .d (.b false) → ghosts fr = [] → k .ret fr (H0 ++ J) = r)
  (h0 : gc [1, 2, 15, 16, 17] H0.length ⟨fr, H⟩ = ⟨[(17, .d (I 0)), (16, .d (I z.length)), (15, .d (.l (K1 10) ((z.map Prod.fst).map AEntry.dv) s)), (2, .f g []), (1, .d (.l (K1 10) ((z.map Prod.snd).map AEntry.dv) t))], H0⟩) :
  kC T.env H0.length fr H (.h (.loop [1, 2, 15, 16, 17] L217_0, k)) = if (z.all fun p => bq p.1 p.2) = true then k (.exit 0) ((18, .d (.b false)) :: [(17, .d (I z.length)), (16, .d (I z.length)), (15, .d (.l (K1 10) ((z.map Prod.fst).map AEntry.dv) s)), (2, .f g []), (1, .d (.l (K1 10) ((z.map Prod.snd).map AEntry.dv) t))]) H0 else r := by
 rw [loop_rounds z (fun i _ => ⟨[(17, .d (I i)), (16, .d (I z.length)), (15, .d (.l (K1 10) ((z.map Prod.fst).map AEntry.dv) s)), (2, .f g []), (1, .d (.l (K1 10) ((z.map Prod.snd).map AEntry.dv) t))], H0⟩) (fun _ _ => True) (fun i _ p c => if bq p.1 p.2 = true then c () else r) (fun _ => k (.exit 0) ((18, .d (.b false)) :: [(17, .d (I z.length)), (16, .d (I z.length)), (15, .d (.l (K1 10) ((z.map Prod.fst).map AEntry.dv) s)), (2, .f g []), (1, .d (.l (K1 10) ((z.map Prod.snd).map AEntry.dv) t))]) H0) ?_ ?_ h0 trivial]
 ·rw [rounds_all (fun p => bq p.1 p.2) r]
  exact fun _ _ _ _ => rfl
 ·intro B _ _ _
  simp [L217_0]
 ·intro B _ i _ hi _ c hc
  have hm := mxl
  have h1 : (i : Int) < z.length := by omega
  have h3 := wr1 (i := i) (by omega)
  have he := hv z[i] (List.getElem_mem hi)
  simp [L217_0, h1, hi, he, put_app, put_app0, obj_app, obj_app0, put_0, put_s]
  repeat' (refine brn_split (fun h => ?_) (fun h => ?_) <;> (try simp at h) <;> (try simp [h, h3]))
  all_goals first
   | exact hr _ _ (by simp [Fr.get]) (by simp [ghosts, gh])
   | (refine hc () _ _ trivial ?_; rw [gc_low _ hH (by simp [frRefs, Fr.keep, PV.refs, PV.refsL, gh])]; simp [Fr.keep, gh])
theorem ref217 (T : Tab) (hF : T.F 217 = some F217) (g : Nat) (bq : AEntry → AEntry → Bool) (H0 : Heap) (hH : Cl H0) (x y : List AEntry) (hv : ∀ a ∈ x, ∀ b ∈ y, T.val g [AEntry.dv a, AEntry.dv b] = some (.d (.b (bq a b)), false)) (s t : Bool) (hn : x.length ≤ maxLen) : T.ref 217 [.d (.l (K1 10) (x.map AEntry.dv) s), .d (.l (K1 10) (y.map AEntry.dv) t), .f g []] H0 = some (.d (.b (lsb bq x y)), H0) := by
 rw [ref_k T hF rfl]
 by_cases hl : x.length = y.length
 ·obtain ⟨z, rfl, rfl⟩ := zip_of x y hl
  rw [lsb_zip]
  have hz : z.length ≤ maxLen := by simpa using hn
  have lp := fun k fr H => @loop217 T g bq H0 hH z (fun p hp => hv _ (List.mem_map_of_mem hp) _ (List.mem_map_of_mem hp)) s t hz k (some (.d (.b false), H0)) fr H
  simp [F217, Fr.ofArgs]
  rw [lp]
  ·split
   ·rename_i hq
    simp only [blK, sqK]
    simp [hq, finR_ret, gcVd0 hH]
   ·rename_i hq
    have hq' : (z.all fun p => bq p.1 p.2) = false := by simpa using hq
    rw [hq']
  ·intro fr J h1 h2
   simp [h1, h2, finR_ret, gcVd hH]
  ·rw [gc_low0 _ hH (by simp [frRefs, Fr.keep, PV.refs, PV.refsL, gh])]
   simp [Fr.keep, gh]
 ·rw [lsb_len _ _ hl]
  have hl' : ((x.length : Int) == (y.length : Int)) = false := by simp; omega
  simp [F217, Fr.ofArgs, hl', bne, finR_ret, gcVd0 hH]
theorem loop294 (T : Tab) (g : Nat) (bq : AFee → AFee → Bool) (H0 : Heap) (hH : Cl H0) (z : List (AFee × AFee)) (hv : ∀ p ∈ z, T.val g [AFee.dv p.1, AFee.dv p.2] = some (.d (.b (bq p.1 p.2)), false)) (s t : Bool) (hn : z.length ≤ maxLen) {k : KC (PV × Heap)} {r : Option (PV × Heap)} {fr : Fr} {H : Heap} (hr : ∀ fr J, fr.get 6 = .d (.b false) → ghosts fr = [] → k .ret fr (H0 ++ J) = r)
  (h0 : gc [1, 2, 15, 16, 17] H0.length ⟨fr, H⟩ = ⟨[(17, .d (I 0)), (16, .d (I z.length)), (15, .d (.l (K1 10) ((z.map Prod.fst).map AFee.dv) s)), (2, .f g []), (1, .d (.l (K1 10) ((z.map Prod.snd).map AFee.dv) t))], H0⟩) :
  kC T.env H0.length fr H (.h (.loop [1, 2, 15, 16, 17] L294_0, k)) = if (z.all fun p => bq p.1 p.2) = true then k (.exit 0) ((18, .d (.b false)) :: [(17, .d (I z.length)), (16, .d (I z.length)), (15, .d (.l (K1 10) ((z.map Prod.fst).map AFee.dv) s)), (2, .f g []), (1, .d (.l (K1 10) ((z.map Prod.snd).map AFee.dv) t))]) H0 else r := by
 rw [loop_rounds z (fun i _ => ⟨[(17, .d (I i)), (16, .d (I z.length)), (15, .d (.l (K1 10) ((z.map Prod.fst).map AFee.dv) s)), (2, .f g []), (1, .d (.l (K1 10) ((z.map Prod.snd).map AFee.dv) t))], H0⟩) (fun _ _ => True) (fun i _ p c => if bq p.1 p.2 = true then c () else r) (fun _ => k (.exit 0) ((18, .d (.b false)) :: [(17, .d (I z.length)), (16, .d (I z.length)), (15, .d (.l (K1 10) ((z.map Prod.fst).map AFee.dv) s)), (2, .f g []), (1, .d (.l (K1 10) ((z.map Prod.snd).map AFee.dv) t))]) H0) ?_ ?_ h0 trivial]
 ·rw [rounds_all (fun p => bq p.1 p.2) r]
  exact fun _ _ _ _ => rfl
 ·intro B _ _ _
  simp [L294_0]
 ·intro B _ i _ hi _ c hc
  have hm := mxl
  have h1 : (i : Int) < z.length := by omega
  have h3 := wr1 (i := i) (by omega)
  have he := hv z[i] (List.getElem_mem hi)
  simp [L294_0, h1, hi, he, put_app, put_app0, obj_app, obj_app0, put_0, put_s]
  repeat' (refine brn_split (fun h => ?_) (fun h => ?_) <;> (try simp at h) <;> (try simp [h, h3]))
  all_goals first
   | exact hr _ _ (by simp [Fr.get]) (by simp [ghosts, gh])
   | (refine hc () _ _ trivial ?_; rw [gc_low _ hH (by simp [frRefs, Fr.keep, PV.refs, PV.refsL, gh])]; simp [Fr.keep, gh])
theorem ref294 (T : Tab) (hF : T.F 294 = some F294) (g : Nat) (bq : AFee → AFee → Bool) (H0 : Heap) (hH : Cl H0) (x y : List AFee) (hv : ∀ a ∈ x, ∀ b ∈ y, T.val g [AFee.dv a, AFee.dv b] = some (.d (.b (bq a b)), false)) (s t : Bool) (hn : x.length ≤ maxLen) : T.ref 294 [.d (.l (K1 10) (x.map AFee.dv) s), .d (.l (K1 10) (y.map AFee.dv) t), .f g []] H0 = some (.d (.b (lsb bq x y)), H0) := by
 rw [ref_k T hF rfl]
 by_cases hl : x.length = y.length
 ·obtain ⟨z, rfl, rfl⟩ := zip_of x y hl
  rw [lsb_zip]
  have hz : z.length ≤ maxLen := by simpa using hn
  have lp := fun k fr H => @loop294 T g bq H0 hH z (fun p hp => hv _ (List.mem_map_of_mem hp) _ (List.mem_map_of_mem hp)) s t hz k (some (.d (.b false), H0)) fr H
  simp [F294, Fr.ofArgs]
  rw [lp]
  ·split
   ·rename_i hq
    simp only [blK, sqK]
    simp [hq, finR_ret, gcVd0 hH]
   ·rename_i hq
    have hq' : (z.all fun p => bq p.1 p.2) = false := by simpa using hq
    rw [hq']
  ·intro fr J h1 h2
   simp [h1, h2, finR_ret, gcVd hH]
  ·rw [gc_low0 _ hH (by simp [frRefs, Fr.keep, PV.refs, PV.refsL, gh])]
   simp [Fr.keep, gh]
 ·rw [lsb_len _ _ hl]
  have hl' : ((x.length : Int) == (y.length : Int)) = false := by simp; omega
  simp [F294, Fr.ofArgs, hl', bne, finR_ret, gcVd0 hH]
theorem loop297 (T : Tab) (g : Nat) (bq : ARule → ARule → Bool) (H0 : Heap) (hH : Cl H0) (z : List (ARule × ARule)) (hv : ∀ p ∈ z, T.val g [ARule.dv p.1, ARule.dv p.2] = some (.d (.b (bq p.1 p.2)), false)) (s t : Bool) (hn : z.length ≤ maxLen) {k : KC (PV × Heap)} {r : Option (PV × Heap)} {fr : Fr} {H : Heap} (hr : ∀ fr J, fr.get 6 = .d (.b false) → ghosts fr = [] → k .ret fr (H0 ++ J) = r)
  (h0 : gc [1, 2, 15, 16, 17] H0.length ⟨fr, H⟩ = ⟨[(17, .d (I 0)), (16, .d (I z.length)), (15, .d (.l (K1 6) ((z.map Prod.fst).map ARule.dv) s)), (2, .f g []), (1, .d (.l (K1 6) ((z.map Prod.snd).map ARule.dv) t))], H0⟩) :
  kC T.env H0.length fr H (.h (.loop [1, 2, 15, 16, 17] L297_0, k)) = if (z.all fun p => bq p.1 p.2) = true then k (.exit 0) ((18, .d (.b false)) :: [(17, .d (I z.length)), (16, .d (I z.length)), (15, .d (.l (K1 6) ((z.map Prod.fst).map ARule.dv) s)), (2, .f g []), (1, .d (.l (K1 6) ((z.map Prod.snd).map ARule.dv) t))]) H0 else r := by
 rw [loop_rounds z (fun i _ => ⟨[(17, .d (I i)), (16, .d (I z.length)), (15, .d (.l (K1 6) ((z.map Prod.fst).map ARule.dv) s)), (2, .f g []), (1, .d (.l (K1 6) ((z.map Prod.snd).map ARule.dv) t))], H0⟩) (fun _ _ => True) (fun i _ p c => if bq p.1 p.2 = true then c () else r) (fun _ => k (.exit 0) ((18, .d (.b false)) :: [(17, .d (I z.length)), (16, .d (I z.length)), (15, .d (.l (K1 6) ((z.map Prod.fst).map ARule.dv) s)), (2, .f g []), (1, .d (.l (K1 6) ((z.map Prod.snd).map ARule.dv) t))]) H0) ?_ ?_ h0 trivial]
 ·rw [rounds_all (fun p => bq p.1 p.2) r]
  exact fun _ _ _ _ => rfl
 ·intro B _ _ _
  simp [L297_0]
 ·intro B _ i _ hi _ c hc
  have hm := mxl
  have h1 : (i : Int) < z.length := by omega
  have h3 := wr1 (i := i) (by omega)
  have he := hv z[i] (List.getElem_mem hi)
  simp [L297_0, h1, hi, he, put_app, put_app0, obj_app, obj_app0, put_0, put_s]
  repeat' (refine brn_split (fun h => ?_) (fun h => ?_) <;> (try simp at h) <;> (try simp [h, h3]))
  all_goals first
   | exact hr _ _ (by simp [Fr.get]) (by simp [ghosts, gh])
   | (refine hc () _ _ trivial ?_; rw [gc_low _ hH (by simp [frRefs, Fr.keep, PV.refs, PV.refsL, gh])]; simp [Fr.keep, gh])
theorem ref297 (T : Tab) (hF : T.F 297 = some F297) (g : Nat) (bq : ARule → ARule → Bool) (H0 : Heap) (hH : Cl H0) (x y : List ARule) (hv : ∀ a ∈ x, ∀ b ∈ y, T.val g [ARule.dv a, ARule.dv b] = some (.d (.b (bq a b)), false)) (s t : Bool) (hn : x.length ≤ maxLen) : T.ref 297 [.d (.l (K1 6) (x.map ARule.dv) s), .d (.l (K1 6) (y.map ARule.dv) t), .f g []] H0 = some (.d (.b (lsb bq x y)), H0) := by
 rw [ref_k T hF rfl]
 by_cases hl : x.length = y.length
 ·obtain ⟨z, rfl, rfl⟩ := zip_of x y hl
  rw [lsb_zip]
  have hz : z.length ≤ maxLen := by simpa using hn
  have lp := fun k fr H => @loop297 T g bq H0 hH z (fun p hp => hv _ (List.mem_map_of_mem hp) _ (List.mem_map_of_mem hp)) s t hz k (some (.d (.b false), H0)) fr H
  simp [F297, Fr.ofArgs]
  rw [lp]
  ·split
   ·rename_i hq
    simp only [blK, sqK]
    simp [hq, finR_ret, gcVd0 hH]
   ·rename_i hq
    have hq' : (z.all fun p => bq p.1 p.2) = false := by simpa using hq
    rw [hq']
  ·intro fr J h1 h2
   simp [h1, h2, finR_ret, gcVd hH]
  ·rw [gc_low0 _ hH (by simp [frRefs, Fr.keep, PV.refs, PV.refsL, gh])]
   simp [Fr.keep, gh]
 ·rw [lsb_len _ _ hl]
  have hl' : ((x.length : Int) == (y.length : Int)) = false := by simp; omega
  simp [F297, Fr.ofArgs, hl', bne, finR_ret, gcVd0 hH]
theorem loop364 (T : Tab) (g : Nat) (bq : AExpr → AExpr → Bool) (H0 : Heap) (hH : Cl H0) (z : List (AExpr × AExpr)) (hv : ∀ p ∈ z, T.val g [AExpr.dv p.1, AExpr.dv p.2] = some (.d (.b (bq p.1 p.2)), false)) (s t : Bool) (hn : z.length ≤ maxLen) {k : KC (PV × Heap)} {r : Option (PV × Heap)} {fr : Fr} {H : Heap} (hr : ∀ fr J, fr.get 6 = .d (.b false) → ghosts fr = [] → k .ret fr (H0 ++ J) = r)
  (h0 : gc [1, 2, 15, 16, 17] H0.length ⟨fr, H⟩ = ⟨[(17, .d (I 0)), (16, .d (I z.length)), (15, .d (.l (K1 4) ((z.map Prod.fst).map AExpr.dv) s)), (2, .f g []), (1, .d (.l (K1 4) ((z.map Prod.snd).map AExpr.dv) t))], H0⟩) :
  kC T.env H0.length fr H (.h (.loop [1, 2, 15, 16, 17] L364_0, k)) = if (z.all fun p => bq p.1 p.2) = true then k (.exit 0) ((18, .d (.b false)) :: [(17, .d (I z.length)), (16, .d (I z.length)), (15, .d (.l (K1 4) ((z.map Prod.fst).map AExpr.dv) s)), (2, .f g []), (1, .d (.l (K1 4) ((z.map Prod.snd).map AExpr.dv) t))]) H0 else r := by
 rw [loop_rounds z (fun i _ => ⟨[(17, .d (I i)), (16, .d (I z.length)), (15, .d (.l (K1 4) ((z.map Prod.fst).map AExpr.dv) s)), (2, .f g []), (1, .d (.l (K1 4) ((z.map Prod.snd).map AExpr.dv) t))], H0⟩) (fun _ _ => True) (fun i _ p c => if bq p.1 p.2 = true then c () else r) (fun _ => k (.exit 0) ((18, .d (.b false)) :: [(17, .d (I z.length)), (16, .d (I z.length)), (15, .d (.l (K1 4) ((z.map Prod.fst).map AExpr.dv) s)), (2, .f g []), (1, .d (.l (K1 4) ((z.map Prod.snd).map AExpr.dv) t))]) H0) ?_ ?_ h0 trivial]
 ·rw [rounds_all (fun p => bq p.1 p.2) r]
  exact fun _ _ _ _ => rfl
 ·intro B _ _ _
  simp [L364_0]
 ·intro B _ i _ hi _ c hc
  have hm := mxl
  have h1 : (i : Int) < z.length := by omega
  have h3 := wr1 (i := i) (by omega)
  have he := hv z[i] (List.getElem_mem hi)
  simp [L364_0, h1, hi, he, put_app, put_app0, obj_app, obj_app0, put_0, put_s]
  repeat' (refine brn_split (fun h => ?_) (fun h => ?_) <;> (try simp at h) <;> (try simp [h, h3]))
  all_goals first
   | exact hr _ _ (by simp [Fr.get]) (by simp [ghosts, gh])
   | (refine hc () _ _ trivial ?_; rw [gc_low _ hH (by simp [frRefs, Fr.keep, PV.refs, PV.refsL, gh])]; simp [Fr.keep, gh])
theorem ref364 (T : Tab) (hF : T.F 364 = some F364) (g : Nat) (bq : AExpr → AExpr → Bool) (H0 : Heap) (hH : Cl H0) (x y : List AExpr) (hv : ∀ a ∈ x, ∀ b ∈ y, T.val g [AExpr.dv a, AExpr.dv b] = some (.d (.b (bq a b)), false)) (s t : Bool) (hn : x.length ≤ maxLen) : T.ref 364 [.d (.l (K1 4) (x.map AExpr.dv) s), .d (.l (K1 4) (y.map AExpr.dv) t), .f g []] H0 = some (.d (.b (lsb bq x y)), H0) := by
 rw [ref_k T hF rfl]
 by_cases hl : x.length = y.length
 ·obtain ⟨z, rfl, rfl⟩ := zip_of x y hl
  rw [lsb_zip]
  have hz : z.length ≤ maxLen := by simpa using hn
  have lp := fun k fr H => @loop364 T g bq H0 hH z (fun p hp => hv _ (List.mem_map_of_mem hp) _ (List.mem_map_of_mem hp)) s t hz k (some (.d (.b false), H0)) fr H
  simp [F364, Fr.ofArgs]
  rw [lp]
  ·split
   ·rename_i hq
    simp only [blK, sqK]
    simp [hq, finR_ret, gcVd0 hH]
   ·rename_i hq
    have hq' : (z.all fun p => bq p.1 p.2) = false := by simpa using hq
    rw [hq']
  ·intro fr J h1 h2
   simp [h1, h2, finR_ret, gcVd hH]
  ·rw [gc_low0 _ hH (by simp [frRefs, Fr.keep, PV.refs, PV.refsL, gh])]
   simp [Fr.keep, gh]
 ·rw [lsb_len _ _ hl]
  have hl' : ((x.length : Int) == (y.length : Int)) = false := by simp; omega
  simp [F364, Fr.ofArgs, hl', bne, finR_ret, gcVd0 hH]
end Go.Sim
end
section
namespace Go.Sim
set_option maxRecDepth 10000
theorem lp95_0 (T : Tab) (z : List (ADue × ADue)) (s t : Bool) (hn : z.length ≤ maxLen) {k : KC (PV × Bool)} {r : Option (PV × Bool)} {fr : Fr} {H : Heap} (hr : RetF 4 k r) (h0 : gc [0, 1, 5] 0 ⟨fr, H⟩ = ⟨[(5, .d (I 0)), (1, .d (.l (K1 4) ((z.map Prod.snd).map ADue.dv) t)), (0, .d (.l (K1 4) ((z.map Prod.fst).map ADue.dv) s))], []⟩) :
  kC T.env 0 fr H (.h (.loop [0, 1, 5] L95_0, k)) = brn (z.all fun p => ADue.beq p.1 p.2) (.h (k (.exit 0) [(14, .d (.b false)), (5, .d (I z.length)), (1, .d (.l (K1 4) ((z.map Prod.snd).map ADue.dv) t)), (0, .d (.l (K1 4) ((z.map Prod.fst).map ADue.dv) s))] [], r)) := by
 have hm := mxl
 rw [loop_rounds z (fun i _ => ⟨[(5, .d (I i)), (1, .d (.l (K1 4) ((z.map Prod.snd).map ADue.dv) t)), (0, .d (.l (K1 4) ((z.map Prod.fst).map ADue.dv) s))], []⟩) (fun _ _ => True) (fun i _ p c => if ADue.beq p.1 p.2 = true then c () else r) (fun _ => k (.exit 0) [(14, .d (.b false)), (5, .d (I z.length)), (1, .d (.l (K1 4) ((z.map Prod.snd).map ADue.dv) t)), (0, .d (.l (K1 4) ((z.map Prod.fst).map ADue.dv) s))] []) ?_ ?_ h0 trivial]
 ·rw [rounds_all (fun p => ADue.beq p.1 p.2) r]
  ·cases z.all fun p => ADue.beq p.1 p.2 <;> rfl
  ·exact fun _ _ _ _ => rfl
 ·intro B _ _ _
  simp [L95_0]
 ·intro B _ i _ hi _ c hc
  have h1 : (i : Int) < z.length := by omega
  have h3 := wr1 (i := i) (by omega)
  have he : eqA [1, 1, 1, 1] (.d (ADue.dv z[i].1)) (.d (ADue.dv z[i].2)) = some (ADue.beq z[i].1 z[i].2) := by
   simp [eqA, eqL, eqK, ADue.dv, ADue.beq, ibq, Bool.and_assoc]
  simp [L95_0, h1, hi, he]
  repeat' (refine brn_split (fun h => ?_) (fun h => ?_) <;> (try simp at h) <;> (try simp [h, h3]))
  all_goals first
   | exact hr _ _ (by simp [Fr.get]) (by simp [ghosts, gh])
   | exact hc () _ _ trivial (by simp [gc, Fr.keep, reach, frRefs, heapRefs, PV.refs, gcH, PV.ren, Obj.ren, Heap.obj, Fr.ren, gh])
theorem lp96_0 (T : Tab) (z : List (AChange × AChange)) (s t : Bool) (hn : z.length ≤ maxLen) {k : KC (PV × Bool)} {r : Option (PV × Bool)} {fr : Fr} {H : Heap} (hr : RetF 4 k r) (h0 : gc [0, 1, 5] 0 ⟨fr, H⟩ = ⟨[(5, .d (I 0)), (1, .d (.l (K1 14) ((z.map Prod.snd).map AChange.dv) t)), (0, .d (.l (K1 14) ((z.map Prod.fst).map AChange.dv) s))], []⟩) :
  kC T.env 0 fr H (.h (.loop [0, 1, 5] L96_0, k)) = brn (z.all fun p => AChange.beq p.1 p.2) (.h (k (.exit 0) [(14, .d (.b false)), (5, .d (I z.length)), (1, .d (.l (K1 14) ((z.map Prod.snd).map AChange.dv) t)), (0, .d (.l (K1 14) ((z.map Prod.fst).map AChange.dv) s))] [], r)) := by
 have hm := mxl
 rw [loop_rounds z (fun i _ => ⟨[(5, .d (I i)), (1, .d (.l (K1 14) ((z.map Prod.snd).map AChange.dv) t)), (0, .d (.l (K1 14) ((z.map Prod.fst).map AChange.dv) s))], []⟩) (fun _ _ => True) (fun i _ p c => if AChange.beq p.1 p.2 = true then c () else r) (fun _ => k (.exit 0) [(14, .d (.b false)), (5, .d (I z.length)), (1, .d (.l (K1 14) ((z.map Prod.snd).map AChange.dv) t)), (0, .d (.l (K1 14) ((z.map Prod.fst).map AChange.dv) s))] []) ?_ ?_ h0 trivial]
 ·rw [rounds_all (fun p => AChange.beq p.1 p.2) r]
  ·cases z.all fun p => AChange.beq p.1 p.2 <;> rfl
  ·exact fun _ _ _ _ => rfl
 ·intro B _ _ _
  simp [L96_0]
 ·intro B _ i _ hi _ c hc
  have h1 : (i : Int) < z.length := by omega
  have h3 := wr1 (i := i) (by omega)
  have he : eqA [1, 1, 1, 1, 1, 1, 1, 1, 1, 1, 1, 1, 3, 3] (.d (AChange.dv z[i].1)) (.d (AChange.dv z[i].2)) = some (AChange.beq z[i].1 z[i].2) := by
   simp [eqA, eqL, eqK, AChange.dv, AChange.beq, ATerms.beq, ibq, sbq, Bool.and_assoc]
  simp [L96_0, h1, hi, he]
  repeat' (refine brn_split (fun h => ?_) (fun h => ?_) <;> (try simp at h) <;> (try simp [h, h3]))
  all_goals first
   | exact hr _ _ (by simp [Fr.get]) (by simp [ghosts, gh])
   | exact hc () _ _ trivial (by simp [gc, Fr.keep, reach, frRefs, heapRefs, PV.refs, gcH, PV.ren, Obj.ren, Heap.obj, Fr.ren, gh])
theorem lp97_0 (T : Tab) (x y : ABooks) (z : List (AEntry × AEntry)) (hx : x.Journal.l = z.map Prod.fst) (hy : y.Journal.l = z.map Prod.snd) (hv : ∀ p ∈ z, T.val 9 [AEntry.dv p.1, AEntry.dv p.2] = some (.d (.b (AEntry.beq p.1 p.2)), false)) (hn : z.length ≤ maxLen) {k : KC (PV × Bool)} {r : Option (PV × Bool)} {fr : Fr} {H : Heap} (hr : RetF 4 k r) (h0 : gc [2, 3, 5] 0 ⟨fr, H⟩ = ⟨[(5, .d (I 0)), (3, .p 0 0 0), (2, .p 1 0 0)], [some (.box (K1 22) (.d y.dv)), some (.box (K1 22) (.d x.dv))]⟩) :
  kC T.env 0 fr H (.h (.loop [2, 3, 5] L97_0, k)) = brn (z.all fun p => AEntry.beq p.1 p.2) (.h (k (.exit 0) [(51, .d (.b false)), (5, .d (I z.length)), (3, .p 0 0 0), (2, .p 1 0 0)] [some (.box (K1 22) (.d y.dv)), some (.box (K1 22) (.d x.dv))], r)) := by
 have hm := mxl
 rw [loop_rounds z (fun i _ => ⟨[(5, .d (I i)), (3, .p 0 0 0), (2, .p 1 0 0)], [some (.box (K1 22) (.d y.dv)), some (.box (K1 22) (.d x.dv))]⟩) (fun _ _ => True) (fun i _ p c => if AEntry.beq p.1 p.2 = true then c () else r) (fun _ => k (.exit 0) [(51, .d (.b false)), (5, .d (I z.length)), (3, .p 0 0 0), (2, .p 1 0 0)] [some (.box (K1 22) (.d y.dv)), some (.box (K1 22) (.d x.dv))]) ?_ ?_ h0 trivial]
 ·rw [rounds_all (fun p => AEntry.beq p.1 p.2) r]
  ·cases z.all fun p => AEntry.beq p.1 p.2 <;> rfl
  ·exact fun _ _ _ _ => rfl
 ·intro B _ _ _
  simp [L97_0, hx]
 ·intro B _ i _ hi _ c hc
  have h1 : (i : Int) < z.length := by omega
  have h3 := wr1 (i := i) (by omega)
  have he := hv z[i] (List.getElem_mem hi)
  simp [L97_0, h1, hi, he, hx, hy]
  repeat' (refine brn_split (fun h => ?_) (fun h => ?_) <;> (try simp at h) <;> (try simp [h, h3]))
  all_goals first
   | exact hr _ _ (by simp [Fr.get]) (by simp [ghosts, gh])
   | exact hc () _ _ trivial (by simp [gc, Fr.keep, reach, frRefs, heapRefs, PV.refs, place, gcH, orefs, Obj.refs, PV.ren, Obj.ren, Heap.obj, Fr.ren, gh, List.idxOf?_cons])
theorem lp97_1 (T : Tab) (x y : ABooks) (z : List (AHold × AHold)) (hx : x.Holds.l = z.map Prod.fst) (hy : y.Holds.l = z.map Prod.snd) (hn : z.length ≤ maxLen) {k : KC (PV × Bool)} {r : Option (PV × Bool)} {fr : Fr} {H : Heap} (hr : RetF 4 k r) (h0 : gc [2, 3, 6] 0 ⟨fr, H⟩ = ⟨[(6, .d (I 0)), (3, .p 0 0 0), (2, .p 1 0 0)], [some (.box (K1 22) (.d y.dv)), some (.box (K1 22) (.d x.dv))]⟩) :
  kC T.env 0 fr H (.h (.loop [2, 3, 6] L97_1, k)) = brn (z.all fun p => AHold.beq p.1 p.2) (.h (k (.exit 2) [(70, .d (.b false)), (6, .d (I z.length)), (3, .p 0 0 0), (2, .p 1 0 0)] [some (.box (K1 22) (.d y.dv)), some (.box (K1 22) (.d x.dv))], r)) := by
 have hm := mxl
 rw [loop_rounds z (fun i _ => ⟨[(6, .d (I i)), (3, .p 0 0 0), (2, .p 1 0 0)], [some (.box (K1 22) (.d y.dv)), some (.box (K1 22) (.d x.dv))]⟩) (fun _ _ => True) (fun i _ p c => if AHold.beq p.1 p.2 = true then c () else r) (fun _ => k (.exit 2) [(70, .d (.b false)), (6, .d (I z.length)), (3, .p 0 0 0), (2, .p 1 0 0)] [some (.box (K1 22) (.d y.dv)), some (.box (K1 22) (.d x.dv))]) ?_ ?_ h0 trivial]
 ·rw [rounds_all (fun p => AHold.beq p.1 p.2) r]
  ·cases z.all fun p => AHold.beq p.1 p.2 <;> rfl
  ·exact fun _ _ _ _ => rfl
 ·intro B _ _ _
  simp [L97_1, hx]
 ·intro B _ i _ hi _ c hc
  have h1 : (i : Int) < z.length := by omega
  have h3 := wr1 (i := i) (by omega)
  have he : eqA [1, 1, 1, 1, 1, 3] (.d (AHold.dv z[i].1)) (.d (AHold.dv z[i].2)) = some (AHold.beq z[i].1 z[i].2) := by
   simp [eqA, eqL, eqK, AHold.dv, AHold.beq, ibq, sbq, Bool.and_assoc]
  simp [L97_1, h1, hi, he, hx, hy]
  repeat' (refine brn_split (fun h => ?_) (fun h => ?_) <;> (try simp at h) <;> (try simp [h, h3]))
  all_goals first
   | exact hr _ _ (by simp [Fr.get]) (by simp [ghosts, gh])
   | exact hc () _ _ trivial (by simp [gc, Fr.keep, reach, frRefs, heapRefs, PV.refs, place, gcH, orefs, Obj.refs, PV.ren, Obj.ren, Heap.obj, Fr.ren, gh, List.idxOf?_cons])
theorem lp97_2 (T : Tab) (x y : ABooks) (z : List (ABlock × ABlock)) (hx : x.Blocks.l = z.map Prod.fst) (hy : y.Blocks.l = z.map Prod.snd) (hn : z.length ≤ maxLen) {k : KC (PV × Bool)} {r : Option (PV × Bool)} {fr : Fr} {H : Heap} (hr : RetF 4 k r) (h0 : gc [2, 3, 7] 0 ⟨fr, H⟩ = ⟨[(7, .d (I 0)), (3, .p 0 0 0), (2, .p 1 0 0)], [some (.box (K1 22) (.d y.dv)), some (.box (K1 22) (.d x.dv))]⟩) :
  kC T.env 0 fr H (.h (.loop [2, 3, 7] L97_2, k)) = brn (z.all fun p => ABlock.beq p.1 p.2) (.h (k (.exit 4) [(88, .d (.b false)), (7, .d (I z.length)), (3, .p 0 0 0), (2, .p 1 0 0)] [some (.box (K1 22) (.d y.dv)), some (.box (K1 22) (.d x.dv))], r)) := by
 have hm := mxl
 rw [loop_rounds z (fun i _ => ⟨[(7, .d (I i)), (3, .p 0 0 0), (2, .p 1 0 0)], [some (.box (K1 22) (.d y.dv)), some (.box (K1 22) (.d x.dv))]⟩) (fun _ _ => True) (fun i _ p c => if ABlock.beq p.1 p.2 = true then c () else r) (fun _ => k (.exit 4) [(88, .d (.b false)), (7, .d (I z.length)), (3, .p 0 0 0), (2, .p 1 0 0)] [some (.box (K1 22) (.d y.dv)), some (.box (K1 22) (.d x.dv))]) ?_ ?_ h0 trivial]
 ·rw [rounds_all (fun p => ABlock.beq p.1 p.2) r]
  ·cases z.all fun p => ABlock.beq p.1 p.2 <;> rfl
  ·exact fun _ _ _ _ => rfl
 ·intro B _ _ _
  simp [L97_2, hx]
 ·intro B _ i _ hi _ c hc
  have h1 : (i : Int) < z.length := by omega
  have h3 := wr1 (i := i) (by omega)
  have he : eqA [1, 1, 1, 1, 1, 1, 3] (.d (ABlock.dv z[i].1)) (.d (ABlock.dv z[i].2)) = some (ABlock.beq z[i].1 z[i].2) := by
   simp [eqA, eqL, eqK, ABlock.dv, ABlock.beq, ibq, sbq, Bool.and_assoc]
  simp [L97_2, h1, hi, he, hx, hy]
  repeat' (refine brn_split (fun h => ?_) (fun h => ?_) <;> (try simp at h) <;> (try simp [h, h3]))
  all_goals first
   | exact hr _ _ (by simp [Fr.get]) (by simp [ghosts, gh])
   | exact hc () _ _ trivial (by simp [gc, Fr.keep, reach, frRefs, heapRefs, PV.refs, place, gcH, orefs, Obj.refs, PV.ren, Obj.ren, Heap.obj, Fr.ren, gh, List.idxOf?_cons])
theorem lp98_0 (T : Tab) (x y : ABank) (z : List (ALoan × ALoan)) (hx : x.Loans.l = z.map Prod.fst) (hy : y.Loans.l = z.map Prod.snd) (hv : ∀ p ∈ z, T.val 81 [ALoan.dv p.1, ALoan.dv p.2] = some (.d (.b (ALoan.beq p.1 p.2)), false)) (hn : z.length ≤ maxLen) {k : KC (PV × Bool)} {r : Option (PV × Bool)} {fr : Fr} {H : Heap} (hr : RetF 4 k r) (h0 : gc [2, 3, 5] 0 ⟨fr, H⟩ = ⟨[(5, .d (I 0)), (3, .p 0 0 0), (2, .p 1 0 0)], [some (.box (K1 42) (.d y.dv)), some (.box (K1 42) (.d x.dv))]⟩) :
  kC T.env 0 fr H (.h (.loop [2, 3, 5] L98_0, k)) = brn (z.all fun p => ALoan.beq p.1 p.2) (.h (k (.exit 0) [(35, .d (.b false)), (5, .d (I z.length)), (3, .p 0 0 0), (2, .p 1 0 0)] [some (.box (K1 42) (.d y.dv)), some (.box (K1 42) (.d x.dv))], r)) := by
 have hm := mxl
 rw [loop_rounds z (fun i _ => ⟨[(5, .d (I i)), (3, .p 0 0 0), (2, .p 1 0 0)], [some (.box (K1 42) (.d y.dv)), some (.box (K1 42) (.d x.dv))]⟩) (fun _ _ => True) (fun i _ p c => if ALoan.beq p.1 p.2 = true then c () else r) (fun _ => k (.exit 0) [(35, .d (.b false)), (5, .d (I z.length)), (3, .p 0 0 0), (2, .p 1 0 0)] [some (.box (K1 42) (.d y.dv)), some (.box (K1 42) (.d x.dv))]) ?_ ?_ h0 trivial]
 ·rw [rounds_all (fun p => ALoan.beq p.1 p.2) r]
  ·cases z.all fun p => ALoan.beq p.1 p.2 <;> rfl
  ·exact fun _ _ _ _ => rfl
 ·intro B _ _ _
  simp [L98_0, hx]
 ·intro B _ i _ hi _ c hc
  have h1 : (i : Int) < z.length := by omega
  have h3 := wr1 (i := i) (by omega)
  have he := hv z[i] (List.getElem_mem hi)
  simp [L98_0, h1, hi, he, hx, hy]
  repeat' (refine brn_split (fun h => ?_) (fun h => ?_) <;> (try simp at h) <;> (try simp [h, h3]))
  all_goals first
   | exact hr _ _ (by simp [Fr.get]) (by simp [ghosts, gh])
   | exact hc () _ _ trivial (by simp [gc, Fr.keep, reach, frRefs, heapRefs, PV.refs, place, gcH, orefs, Obj.refs, PV.ren, Obj.ren, Heap.obj, Fr.ren, gh, List.idxOf?_cons])
theorem lp98_1 (T : Tab) (x y : ABank) (z : List (AStatement × AStatement)) (hx : x.Statements.l = z.map Prod.fst) (hy : y.Statements.l = z.map Prod.snd) (hv : ∀ p ∈ z, T.val 142 [AStatement.dv p.1, AStatement.dv p.2] = some (.d (.b (AStatement.beq p.1 p.2)), false)) (hn : z.length ≤ maxLen) {k : KC (PV × Bool)} {r : Option (PV × Bool)} {fr : Fr} {H : Heap} (hr : RetF 4 k r) (h0 : gc [2, 3, 6] 0 ⟨fr, H⟩ = ⟨[(6, .d (I 0)), (3, .p 0 0 0), (2, .p 1 0 0)], [some (.box (K1 42) (.d y.dv)), some (.box (K1 42) (.d x.dv))]⟩) :
  kC T.env 0 fr H (.h (.loop [2, 3, 6] L98_1, k)) = brn (z.all fun p => AStatement.beq p.1 p.2) (.h (k (.exit 2) [(54, .d (.b false)), (6, .d (I z.length)), (3, .p 0 0 0), (2, .p 1 0 0)] [some (.box (K1 42) (.d y.dv)), some (.box (K1 42) (.d x.dv))], r)) := by
 have hm := mxl
 rw [loop_rounds z (fun i _ => ⟨[(6, .d (I i)), (3, .p 0 0 0), (2, .p 1 0 0)], [some (.box (K1 42) (.d y.dv)), some (.box (K1 42) (.d x.dv))]⟩) (fun _ _ => True) (fun i _ p c => if AStatement.beq p.1 p.2 = true then c () else r) (fun _ => k (.exit 2) [(54, .d (.b false)), (6, .d (I z.length)), (3, .p 0 0 0), (2, .p 1 0 0)] [some (.box (K1 42) (.d y.dv)), some (.box (K1 42) (.d x.dv))]) ?_ ?_ h0 trivial]
 ·rw [rounds_all (fun p => AStatement.beq p.1 p.2) r]
  ·cases z.all fun p => AStatement.beq p.1 p.2 <;> rfl
  ·exact fun _ _ _ _ => rfl
 ·intro B _ _ _
  simp [L98_1, hx]
 ·intro B _ i _ hi _ c hc
  have h1 : (i : Int) < z.length := by omega
  have h3 := wr1 (i := i) (by omega)
  have he := hv z[i] (List.getElem_mem hi)
  simp [L98_1, h1, hi, he, hx, hy]
  repeat' (refine brn_split (fun h => ?_) (fun h => ?_) <;> (try simp at h) <;> (try simp [h, h3]))
  all_goals first
   | exact hr _ _ (by simp [Fr.get]) (by simp [ghosts, gh])
   | exact hc () _ _ trivial (by simp [gc, Fr.keep, reach, frRefs, heapRefs, PV.refs, place, gcH, orefs, Obj.refs, PV.ren, Obj.ren, Heap.obj, Fr.ren, gh, List.idxOf?_cons])
theorem lp99_0 (T : Tab) (x y : ABank) (z : List (AUser × AUser)) (hx : x.Users.l = z.map Prod.fst) (hy : y.Users.l = z.map Prod.snd) (hn : z.length ≤ maxLen) {k : KC (PV × Bool)} {r : Option (PV × Bool)} {fr : Fr} {H : Heap} (hr : RetF 4 k r) (h0 : gc [2, 3, 5] 0 ⟨fr, H⟩ = ⟨[(5, .d (I 0)), (3, .p 0 0 0), (2, .p 1 0 0)], [some (.box (K1 42) (.d y.dv)), some (.box (K1 42) (.d x.dv))]⟩) :
  kC T.env 0 fr H (.h (.loop [2, 3, 5] L99_0, k)) = brn (z.all fun p => AUser.beq p.1 p.2) (.h (k (.exit 0) [(71, .d (.b false)), (5, .d (I z.length)), (3, .p 0 0 0), (2, .p 1 0 0)] [some (.box (K1 42) (.d y.dv)), some (.box (K1 42) (.d x.dv))], r)) := by
 have hm := mxl
 rw [loop_rounds z (fun i _ => ⟨[(5, .d (I i)), (3, .p 0 0 0), (2, .p 1 0 0)], [some (.box (K1 42) (.d y.dv)), some (.box (K1 42) (.d x.dv))]⟩) (fun _ _ => True) (fun i _ p c => if AUser.beq p.1 p.2 = true then c () else r) (fun _ => k (.exit 0) [(71, .d (.b false)), (5, .d (I z.length)), (3, .p 0 0 0), (2, .p 1 0 0)] [some (.box (K1 42) (.d y.dv)), some (.box (K1 42) (.d x.dv))]) ?_ ?_ h0 trivial]
 ·rw [rounds_all (fun p => AUser.beq p.1 p.2) r]
  ·cases z.all fun p => AUser.beq p.1 p.2 <;> rfl
  ·exact fun _ _ _ _ => rfl
 ·intro B _ _ _
  simp [L99_0, hx]
 ·intro B _ i _ hi _ c hc
  have h1 : (i : Int) < z.length := by omega
  have h3 := wr1 (i := i) (by omega)
  have he : eqA [3, 1, 1] (.d (AUser.dv z[i].1)) (.d (AUser.dv z[i].2)) = some (AUser.beq z[i].1 z[i].2) := by
   simp [eqA, eqL, eqK, AUser.dv, AUser.beq, ibq, sbq, Bool.and_assoc]
  simp [L99_0, h1, hi, he, hx, hy]
  repeat' (refine brn_split (fun h => ?_) (fun h => ?_) <;> (try simp at h) <;> (try simp [h, h3]))
  all_goals first
   | exact hr _ _ (by simp [Fr.get]) (by simp [ghosts, gh])
   | exact hc () _ _ trivial (by simp [gc, Fr.keep, reach, frRefs, heapRefs, PV.refs, place, gcH, orefs, Obj.refs, PV.ren, Obj.ren, Heap.obj, Fr.ren, gh, List.idxOf?_cons])
theorem lp99_2 (T : Tab) (x y : ABank) (z : List (AAvail × AAvail)) (hx : x.Night.Avail.l = z.map Prod.fst) (hy : y.Night.Avail.l = z.map Prod.snd) (hn : z.length ≤ maxLen) {k : KC (PV × Bool)} {r : Option (PV × Bool)} {fr : Fr} {H : Heap} (hr : RetF 4 k r) (h0 : gc [2, 3, 9] 0 ⟨fr, H⟩ = ⟨[(9, .d (I 0)), (3, .p 0 0 0), (2, .p 1 0 0)], [some (.box (K1 42) (.d y.dv)), some (.box (K1 42) (.d x.dv))]⟩) :
  kC T.env 0 fr H (.h (.loop [2, 3, 9] L99_2, k)) = brn (z.all fun p => AAvail.beq p.1 p.2) (.h (k (.exit 4) [(155, .d (.b false)), (9, .d (I z.length)), (3, .p 0 0 0), (2, .p 1 0 0)] [some (.box (K1 42) (.d y.dv)), some (.box (K1 42) (.d x.dv))], r)) := by
 have hm := mxl
 rw [loop_rounds z (fun i _ => ⟨[(9, .d (I i)), (3, .p 0 0 0), (2, .p 1 0 0)], [some (.box (K1 42) (.d y.dv)), some (.box (K1 42) (.d x.dv))]⟩) (fun _ _ => True) (fun i _ p c => if AAvail.beq p.1 p.2 = true then c () else r) (fun _ => k (.exit 4) [(155, .d (.b false)), (9, .d (I z.length)), (3, .p 0 0 0), (2, .p 1 0 0)] [some (.box (K1 42) (.d y.dv)), some (.box (K1 42) (.d x.dv))]) ?_ ?_ h0 trivial]
 ·rw [rounds_all (fun p => AAvail.beq p.1 p.2) r]
  ·cases z.all fun p => AAvail.beq p.1 p.2 <;> rfl
  ·exact fun _ _ _ _ => rfl
 ·intro B _ _ _
  simp [L99_2, hx]
 ·intro B _ i _ hi _ c hc
  have h1 : (i : Int) < z.length := by omega
  have h3 := wr1 (i := i) (by omega)
  have he : eqA [1, 1, 1] (.d (AAvail.dv z[i].1)) (.d (AAvail.dv z[i].2)) = some (AAvail.beq z[i].1 z[i].2) := by
   simp [eqA, eqL, eqK, AAvail.dv, AAvail.beq, ibq, Bool.and_assoc]
  simp [L99_2, h1, hi, he, hx, hy]
  repeat' (refine brn_split (fun h => ?_) (fun h => ?_) <;> (try simp at h) <;> (try simp [h, h3]))
  all_goals first
   | exact hr _ _ (by simp [Fr.get]) (by simp [ghosts, gh])
   | exact hc () _ _ trivial (by simp [gc, Fr.keep, reach, frRefs, heapRefs, PV.refs, place, gcH, orefs, Obj.refs, PV.ren, Obj.ren, Heap.obj, Fr.ren, gh, List.idxOf?_cons])
theorem lp99_3 (T : Tab) (x y : ABank) (z : List (AWait × AWait)) (hx : x.Night.Queue.l = z.map Prod.fst) (hy : y.Night.Queue.l = z.map Prod.snd) (hn : z.length ≤ maxLen) {k : KC (PV × Bool)} {r : Option (PV × Bool)} {fr : Fr} {H : Heap} (hr : RetF 4 k r) (h0 : gc [2, 3, 10] 0 ⟨fr, H⟩ = ⟨[(10, .d (I 0)), (3, .p 0 0 0), (2, .p 1 0 0)], [some (.box (K1 42) (.d y.dv)), some (.box (K1 42) (.d x.dv))]⟩) :
  kC T.env 0 fr H (.h (.loop [2, 3, 10] L99_3, k)) = brn (z.all fun p => AWait.beq p.1 p.2) (.h (k (.exit 6) [(176, .d (.b false)), (10, .d (I z.length)), (3, .p 0 0 0), (2, .p 1 0 0)] [some (.box (K1 42) (.d y.dv)), some (.box (K1 42) (.d x.dv))], r)) := by
 have hm := mxl
 rw [loop_rounds z (fun i _ => ⟨[(10, .d (I i)), (3, .p 0 0 0), (2, .p 1 0 0)], [some (.box (K1 42) (.d y.dv)), some (.box (K1 42) (.d x.dv))]⟩) (fun _ _ => True) (fun i _ p c => if AWait.beq p.1 p.2 = true then c () else r) (fun _ => k (.exit 6) [(176, .d (.b false)), (10, .d (I z.length)), (3, .p 0 0 0), (2, .p 1 0 0)] [some (.box (K1 42) (.d y.dv)), some (.box (K1 42) (.d x.dv))]) ?_ ?_ h0 trivial]
 ·rw [rounds_all (fun p => AWait.beq p.1 p.2) r]
  ·cases z.all fun p => AWait.beq p.1 p.2 <;> rfl
  ·exact fun _ _ _ _ => rfl
 ·intro B _ _ _
  simp [L99_3, hx]
 ·intro B _ i _ hi _ c hc
  have h1 : (i : Int) < z.length := by omega
  have h3 := wr1 (i := i) (by omega)
  have he : eqA [1, 1, 3] (.d (AWait.dv z[i].1)) (.d (AWait.dv z[i].2)) = some (AWait.beq z[i].1 z[i].2) := by
   simp [eqA, eqL, eqK, AWait.dv, AWait.beq, ibq, sbq, Bool.and_assoc]
  simp [L99_3, h1, hi, he, hx, hy]
  repeat' (refine brn_split (fun h => ?_) (fun h => ?_) <;> (try simp at h) <;> (try simp [h, h3]))
  all_goals first
   | exact hr _ _ (by simp [Fr.get]) (by simp [ghosts, gh])
   | exact hc () _ _ trivial (by simp [gc, Fr.keep, reach, frRefs, heapRefs, PV.refs, place, gcH, orefs, Obj.refs, PV.ren, Obj.ren, Heap.obj, Fr.ren, gh, List.idxOf?_cons])
theorem lp139_0 (T : Tab) (x y : ABooks) (z : List (ACurrency × ACurrency)) (hx : x.Currencies.l = z.map Prod.fst) (hy : y.Currencies.l = z.map Prod.snd) (hn : z.length ≤ maxLen) {k : KC (PV × Bool)} {r : Option (PV × Bool)} {fr : Fr} {H : Heap} (hr : RetF 4 k r) (h0 : gc [2, 3, 5] 0 ⟨fr, H⟩ = ⟨[(5, .d (I 0)), (3, .p 0 0 0), (2, .p 1 0 0)], [some (.box (K1 22) (.d y.dv)), some (.box (K1 22) (.d x.dv))]⟩) :
  kC T.env 0 fr H (.h (.loop [2, 3, 5] L139_0, k)) = brn (z.all fun p => ACurrency.beq p.1 p.2) (.h (k (.exit 0) [(52, .d (.b false)), (5, .d (I z.length)), (3, .p 0 0 0), (2, .p 1 0 0)] [some (.box (K1 22) (.d y.dv)), some (.box (K1 22) (.d x.dv))], r)) := by
 have hm := mxl
 rw [loop_rounds z (fun i _ => ⟨[(5, .d (I i)), (3, .p 0 0 0), (2, .p 1 0 0)], [some (.box (K1 22) (.d y.dv)), some (.box (K1 22) (.d x.dv))]⟩) (fun _ _ => True) (fun i _ p c => if ACurrency.beq p.1 p.2 = true then c () else r) (fun _ => k (.exit 0) [(52, .d (.b false)), (5, .d (I z.length)), (3, .p 0 0 0), (2, .p 1 0 0)] [some (.box (K1 22) (.d y.dv)), some (.box (K1 22) (.d x.dv))]) ?_ ?_ h0 trivial]
 ·rw [rounds_all (fun p => ACurrency.beq p.1 p.2) r]
  ·cases z.all fun p => ACurrency.beq p.1 p.2 <;> rfl
  ·exact fun _ _ _ _ => rfl
 ·intro B _ _ _
  simp [L139_0, hx]
 ·intro B _ i _ hi _ c hc
  have h1 : (i : Int) < z.length := by omega
  have h3 := wr1 (i := i) (by omega)
  have he : eqA [3, 1] (.d (ACurrency.dv z[i].1)) (.d (ACurrency.dv z[i].2)) = some (ACurrency.beq z[i].1 z[i].2) := by
   simp [eqA, eqL, eqK, ACurrency.dv, ACurrency.beq, ibq, sbq]
  simp [L139_0, h1, hi, he, hx, hy]
  repeat' (refine brn_split (fun h => ?_) (fun h => ?_) <;> (try simp at h) <;> (try simp [h, h3]))
  all_goals first
   | exact hr _ _ (by simp [Fr.get]) (by simp [ghosts, gh])
   | exact hc () _ _ trivial (by simp [gc, Fr.keep, reach, frRefs, heapRefs, PV.refs, place, gcH, orefs, Obj.refs, PV.ren, Obj.ren, Heap.obj, Fr.ren, gh, List.idxOf?_cons])
theorem lp139_1 (T : Tab) (x y : ABooks) (z : List (AGl × AGl)) (hx : x.Chart.l = z.map Prod.fst) (hy : y.Chart.l = z.map Prod.snd) (hn : z.length ≤ maxLen) {k : KC (PV × Bool)} {r : Option (PV × Bool)} {fr : Fr} {H : Heap} (hr : RetF 4 k r) (h0 : gc [2, 3, 6] 0 ⟨fr, H⟩ = ⟨[(6, .d (I 0)), (3, .p 0 0 0), (2, .p 1 0 0)], [some (.box (K1 22) (.d y.dv)), some (.box (K1 22) (.d x.dv))]⟩) :
  kC T.env 0 fr H (.h (.loop [2, 3, 6] L139_1, k)) = brn (z.all fun p => AGl.beq p.1 p.2) (.h (k (.exit 2) [(70, .d (.b false)), (6, .d (I z.length)), (3, .p 0 0 0), (2, .p 1 0 0)] [some (.box (K1 22) (.d y.dv)), some (.box (K1 22) (.d x.dv))], r)) := by
 have hm := mxl
 rw [loop_rounds z (fun i _ => ⟨[(6, .d (I i)), (3, .p 0 0 0), (2, .p 1 0 0)], [some (.box (K1 22) (.d y.dv)), some (.box (K1 22) (.d x.dv))]⟩) (fun _ _ => True) (fun i _ p c => if AGl.beq p.1 p.2 = true then c () else r) (fun _ => k (.exit 2) [(70, .d (.b false)), (6, .d (I z.length)), (3, .p 0 0 0), (2, .p 1 0 0)] [some (.box (K1 22) (.d y.dv)), some (.box (K1 22) (.d x.dv))]) ?_ ?_ h0 trivial]
 ·rw [rounds_all (fun p => AGl.beq p.1 p.2) r]
  ·cases z.all fun p => AGl.beq p.1 p.2 <;> rfl
  ·exact fun _ _ _ _ => rfl
 ·intro B _ _ _
  simp [L139_1, hx]
 ·intro B _ i _ hi _ c hc
  have h1 : (i : Int) < z.length := by omega
  have h3 := wr1 (i := i) (by omega)
  have he : eqA [1, 1, 1, 3] (.d (AGl.dv z[i].1)) (.d (AGl.dv z[i].2)) = some (AGl.beq z[i].1 z[i].2) := by
   simp [eqA, eqL, eqK, AGl.dv, AGl.beq, ibq, sbq, Bool.and_assoc]
  simp [L139_1, h1, hi, he, hx, hy]
  repeat' (refine brn_split (fun h => ?_) (fun h => ?_) <;> (try simp at h) <;> (try simp [h, h3]))
  all_goals first
   | exact hr _ _ (by simp [Fr.get]) (by simp [ghosts, gh])
   | exact hc () _ _ trivial (by simp [gc, Fr.keep, reach, frRefs, heapRefs, PV.refs, place, gcH, orefs, Obj.refs, PV.ren, Obj.ren, Heap.obj, Fr.ren, gh, List.idxOf?_cons])
theorem lp139_2 (T : Tab) (x y : ABooks) (z : List (AProduct × AProduct)) (hx : x.Products.l = z.map Prod.fst) (hy : y.Products.l = z.map Prod.snd) (hv : ∀ p ∈ z, T.val 224 [AProduct.dv p.1, AProduct.dv p.2] = some (.d (.b (AProduct.beq p.1 p.2)), false)) (hn : z.length ≤ maxLen) {k : KC (PV × Bool)} {r : Option (PV × Bool)} {fr : Fr} {H : Heap} (hr : RetF 4 k r) (h0 : gc [2, 3, 7] 0 ⟨fr, H⟩ = ⟨[(7, .d (I 0)), (3, .p 0 0 0), (2, .p 1 0 0)], [some (.box (K1 22) (.d y.dv)), some (.box (K1 22) (.d x.dv))]⟩) :
  kC T.env 0 fr H (.h (.loop [2, 3, 7] L139_2, k)) = brn (z.all fun p => AProduct.beq p.1 p.2) (.h (k (.exit 4) [(88, .d (.b false)), (7, .d (I z.length)), (3, .p 0 0 0), (2, .p 1 0 0)] [some (.box (K1 22) (.d y.dv)), some (.box (K1 22) (.d x.dv))], r)) := by
 have hm := mxl
 rw [loop_rounds z (fun i _ => ⟨[(7, .d (I i)), (3, .p 0 0 0), (2, .p 1 0 0)], [some (.box (K1 22) (.d y.dv)), some (.box (K1 22) (.d x.dv))]⟩) (fun _ _ => True) (fun i _ p c => if AProduct.beq p.1 p.2 = true then c () else r) (fun _ => k (.exit 4) [(88, .d (.b false)), (7, .d (I z.length)), (3, .p 0 0 0), (2, .p 1 0 0)] [some (.box (K1 22) (.d y.dv)), some (.box (K1 22) (.d x.dv))]) ?_ ?_ h0 trivial]
 ·rw [rounds_all (fun p => AProduct.beq p.1 p.2) r]
  ·cases z.all fun p => AProduct.beq p.1 p.2 <;> rfl
  ·exact fun _ _ _ _ => rfl
 ·intro B _ _ _
  simp [L139_2, hx]
 ·intro B _ i _ hi _ c hc
  have h1 : (i : Int) < z.length := by omega
  have h3 := wr1 (i := i) (by omega)
  have he := hv z[i] (List.getElem_mem hi)
  simp [L139_2, h1, hi, he, hx, hy]
  repeat' (refine brn_split (fun h => ?_) (fun h => ?_) <;> (try simp at h) <;> (try simp [h, h3]))
  all_goals first
   | exact hr _ _ (by simp [Fr.get]) (by simp [ghosts, gh])
   | exact hc () _ _ trivial (by simp [gc, Fr.keep, reach, frRefs, heapRefs, PV.refs, place, gcH, orefs, Obj.refs, PV.ren, Obj.ren, Heap.obj, Fr.ren, gh, List.idxOf?_cons])
theorem lp140_0 (T : Tab) (z : List (AAccount × AAccount)) (s t : Bool) (hn : z.length ≤ maxLen) {k : KC (PV × Bool)} {r : Option (PV × Bool)} {fr : Fr} {H : Heap} (hr : RetF 4 k r) (h0 : gc [0, 1, 5] 0 ⟨fr, H⟩ = ⟨[(5, .d (I 0)), (1, .d (.l (K1 7) ((z.map Prod.snd).map AAccount.dv) t)), (0, .d (.l (K1 7) ((z.map Prod.fst).map AAccount.dv) s))], []⟩) :
  kC T.env 0 fr H (.h (.loop [0, 1, 5] L140_0, k)) = brn (z.all fun p => AAccount.beq p.1 p.2) (.h (k (.exit 0) [(14, .d (.b false)), (5, .d (I z.length)), (1, .d (.l (K1 7) ((z.map Prod.snd).map AAccount.dv) t)), (0, .d (.l (K1 7) ((z.map Prod.fst).map AAccount.dv) s))] [], r)) := by
 have hm := mxl
 rw [loop_rounds z (fun i _ => ⟨[(5, .d (I i)), (1, .d (.l (K1 7) ((z.map Prod.snd).map AAccount.dv) t)), (0, .d (.l (K1 7) ((z.map Prod.fst).map AAccount.dv) s))], []⟩) (fun _ _ => True) (fun i _ p c => if AAccount.beq p.1 p.2 = true then c () else r) (fun _ => k (.exit 0) [(14, .d (.b false)), (5, .d (I z.length)), (1, .d (.l (K1 7) ((z.map Prod.snd).map AAccount.dv) t)), (0, .d (.l (K1 7) ((z.map Prod.fst).map AAccount.dv) s))] []) ?_ ?_ h0 trivial]
 ·rw [rounds_all (fun p => AAccount.beq p.1 p.2) r]
  ·cases z.all fun p => AAccount.beq p.1 p.2 <;> rfl
  ·exact fun _ _ _ _ => rfl
 ·intro B _ _ _
  simp [L140_0]
 ·intro B _ i _ hi _ c hc
  have h1 : (i : Int) < z.length := by omega
  have h3 := wr1 (i := i) (by omega)
  have he : eqA [1, 1, 1, 1, 3, 3, 3] (.d (AAccount.dv z[i].1)) (.d (AAccount.dv z[i].2)) = some (AAccount.beq z[i].1 z[i].2) := by
   simp [eqA, eqL, eqK, AAccount.dv, AAccount.beq, ibq, sbq, Bool.and_assoc]
  simp [L140_0, h1, hi, he]
  repeat' (refine brn_split (fun h => ?_) (fun h => ?_) <;> (try simp at h) <;> (try simp [h, h3]))
  all_goals first
   | exact hr _ _ (by simp [Fr.get]) (by simp [ghosts, gh])
   | exact hc () _ _ trivial (by simp [gc, Fr.keep, reach, frRefs, heapRefs, PV.refs, gcH, PV.ren, Obj.ren, Heap.obj, Fr.ren, gh])
theorem lp141_0 (T : Tab) (z : List (APeriod × APeriod)) (s t : Bool) (hn : z.length ≤ maxLen) {k : KC (PV × Bool)} {r : Option (PV × Bool)} {fr : Fr} {H : Heap} (hr : RetF 4 k r) (h0 : gc [0, 1, 5] 0 ⟨fr, H⟩ = ⟨[(5, .d (I 0)), (1, .d (.l (K1 11) ((z.map Prod.snd).map APeriod.dv) t)), (0, .d (.l (K1 11) ((z.map Prod.fst).map APeriod.dv) s))], []⟩) :
  kC T.env 0 fr H (.h (.loop [0, 1, 5] L141_0, k)) = brn (z.all fun p => APeriod.beq p.1 p.2) (.h (k (.exit 0) [(14, .d (.b false)), (5, .d (I z.length)), (1, .d (.l (K1 11) ((z.map Prod.snd).map APeriod.dv) t)), (0, .d (.l (K1 11) ((z.map Prod.fst).map APeriod.dv) s))] [], r)) := by
 have hm := mxl
 rw [loop_rounds z (fun i _ => ⟨[(5, .d (I i)), (1, .d (.l (K1 11) ((z.map Prod.snd).map APeriod.dv) t)), (0, .d (.l (K1 11) ((z.map Prod.fst).map APeriod.dv) s))], []⟩) (fun _ _ => True) (fun i _ p c => if APeriod.beq p.1 p.2 = true then c () else r) (fun _ => k (.exit 0) [(14, .d (.b false)), (5, .d (I z.length)), (1, .d (.l (K1 11) ((z.map Prod.snd).map APeriod.dv) t)), (0, .d (.l (K1 11) ((z.map Prod.fst).map APeriod.dv) s))] []) ?_ ?_ h0 trivial]
 ·rw [rounds_all (fun p => APeriod.beq p.1 p.2) r]
  ·cases z.all fun p => APeriod.beq p.1 p.2 <;> rfl
  ·exact fun _ _ _ _ => rfl
 ·intro B _ _ _
  simp [L141_0]
 ·intro B _ i _ hi _ c hc
  have h1 : (i : Int) < z.length := by omega
  have h3 := wr1 (i := i) (by omega)
  have he : eqA [1, 1, 1, 1, 1, 1, 1, 1, 1, 1, 1] (.d (APeriod.dv z[i].1)) (.d (APeriod.dv z[i].2)) = some (APeriod.beq z[i].1 z[i].2) := by
   simp [eqA, eqL, eqK, APeriod.dv, APeriod.beq, AWide.beq, ibq, Bool.and_assoc]
  simp [L141_0, h1, hi, he]
  repeat' (refine brn_split (fun h => ?_) (fun h => ?_) <;> (try simp at h) <;> (try simp [h, h3]))
  all_goals first
   | exact hr _ _ (by simp [Fr.get]) (by simp [ghosts, gh])
   | exact hc () _ _ trivial (by simp [gc, Fr.keep, reach, frRefs, heapRefs, PV.refs, gcH, PV.ren, Obj.ren, Heap.obj, Fr.ren, gh])
theorem lp142_0 (T : Tab) (x y : AStatement) (z : List (APosting × APosting)) (hx : x.Lines.l = z.map Prod.fst) (hy : y.Lines.l = z.map Prod.snd) (hn : z.length ≤ maxLen) {k : KC (PV × Bool)} {r : Option (PV × Bool)} {fr : Fr} {H : Heap} (hr : RetF 4 k r) (h0 : gc [2, 3, 5] 0 ⟨fr, H⟩ = ⟨[(5, .d (I 0)), (3, .p 0 0 0), (2, .p 1 0 0)], [some (.box (K1 7) (.d y.dv)), some (.box (K1 7) (.d x.dv))]⟩) :
  kC T.env 0 fr H (.h (.loop [2, 3, 5] L142_0, k)) = brn (z.all fun p => APosting.beq p.1 p.2) (.h (k (.exit 0) [(59, .d (.b false)), (5, .d (I z.length)), (3, .p 0 0 0), (2, .p 1 0 0)] [some (.box (K1 7) (.d y.dv)), some (.box (K1 7) (.d x.dv))], r)) := by
 have hm := mxl
 rw [loop_rounds z (fun i _ => ⟨[(5, .d (I i)), (3, .p 0 0 0), (2, .p 1 0 0)], [some (.box (K1 7) (.d y.dv)), some (.box (K1 7) (.d x.dv))]⟩) (fun _ _ => True) (fun i _ p c => if APosting.beq p.1 p.2 = true then c () else r) (fun _ => k (.exit 0) [(59, .d (.b false)), (5, .d (I z.length)), (3, .p 0 0 0), (2, .p 1 0 0)] [some (.box (K1 7) (.d y.dv)), some (.box (K1 7) (.d x.dv))]) ?_ ?_ h0 trivial]
 ·rw [rounds_all (fun p => APosting.beq p.1 p.2) r]
  ·cases z.all fun p => APosting.beq p.1 p.2 <;> rfl
  ·exact fun _ _ _ _ => rfl
 ·intro B _ _ _
  simp [L142_0, hx]
 ·intro B _ i _ hi _ c hc
  have h1 : (i : Int) < z.length := by omega
  have h3 := wr1 (i := i) (by omega)
  have he : eqA [1, 1, 1, 3] (.d (APosting.dv z[i].1)) (.d (APosting.dv z[i].2)) = some (APosting.beq z[i].1 z[i].2) := by
   simp [eqA, eqL, eqK, APosting.dv, APosting.beq, ibq, sbq, Bool.and_assoc]
  simp [L142_0, h1, hi, he, hx, hy]
  repeat' (refine brn_split (fun h => ?_) (fun h => ?_) <;> (try simp at h) <;> (try simp [h, h3]))
  all_goals first
   | exact hr _ _ (by simp [Fr.get]) (by simp [ghosts, gh])
   | exact hc () _ _ trivial (by simp [gc, Fr.keep, reach, frRefs, heapRefs, PV.refs, place, gcH, orefs, Obj.refs, PV.ren, Obj.ren, Heap.obj, Fr.ren, gh, List.idxOf?_cons])
theorem lp143_0 (T : Tab) (x y : ABank) (z : List (AOrder × AOrder)) (hx : x.Orders.l = z.map Prod.fst) (hy : y.Orders.l = z.map Prod.snd) (hn : z.length ≤ maxLen) {k : KC (PV × Bool)} {r : Option (PV × Bool)} {fr : Fr} {H : Heap} (hr : RetF 4 k r) (h0 : gc [2, 3, 5] 0 ⟨fr, H⟩ = ⟨[(5, .d (I 0)), (3, .p 0 0 0), (2, .p 1 0 0)], [some (.box (K1 42) (.d y.dv)), some (.box (K1 42) (.d x.dv))]⟩) :
  kC T.env 0 fr H (.h (.loop [2, 3, 5] L143_0, k)) = brn (z.all fun p => AOrder.beq p.1 p.2) (.h (k (.exit 0) [(47, .d (.b false)), (5, .d (I z.length)), (3, .p 0 0 0), (2, .p 1 0 0)] [some (.box (K1 42) (.d y.dv)), some (.box (K1 42) (.d x.dv))], r)) := by
 have hm := mxl
 rw [loop_rounds z (fun i _ => ⟨[(5, .d (I i)), (3, .p 0 0 0), (2, .p 1 0 0)], [some (.box (K1 42) (.d y.dv)), some (.box (K1 42) (.d x.dv))]⟩) (fun _ _ => True) (fun i _ p c => if AOrder.beq p.1 p.2 = true then c () else r) (fun _ => k (.exit 0) [(47, .d (.b false)), (5, .d (I z.length)), (3, .p 0 0 0), (2, .p 1 0 0)] [some (.box (K1 42) (.d y.dv)), some (.box (K1 42) (.d x.dv))]) ?_ ?_ h0 trivial]
 ·rw [rounds_all (fun p => AOrder.beq p.1 p.2) r]
  ·cases z.all fun p => AOrder.beq p.1 p.2 <;> rfl
  ·exact fun _ _ _ _ => rfl
 ·intro B _ _ _
  simp [L143_0, hx]
 ·intro B _ i _ hi _ c hc
  have h1 : (i : Int) < z.length := by omega
  have h3 := wr1 (i := i) (by omega)
  have he : eqA [1, 1, 1, 1, 1, 1, 1, 1, 1, 3] (.d (AOrder.dv z[i].1)) (.d (AOrder.dv z[i].2)) = some (AOrder.beq z[i].1 z[i].2) := by
   simp [eqA, eqL, eqK, AOrder.dv, AOrder.beq, ibq, sbq, Bool.and_assoc]
  simp [L143_0, h1, hi, he, hx, hy]
  repeat' (refine brn_split (fun h => ?_) (fun h => ?_) <;> (try simp at h) <;> (try simp [h, h3]))
  all_goals first
   | exact hr _ _ (by simp [Fr.get]) (by simp [ghosts, gh])
   | exact hc () _ _ trivial (by simp [gc, Fr.keep, reach, frRefs, heapRefs, PV.refs, place, gcH, orefs, Obj.refs, PV.ren, Obj.ren, Heap.obj, Fr.ren, gh, List.idxOf?_cons])
theorem lp143_1 (T : Tab) (x y : ABank) (z : List (AMandate × AMandate)) (hx : x.Mandates.l = z.map Prod.fst) (hy : y.Mandates.l = z.map Prod.snd) (hn : z.length ≤ maxLen) {k : KC (PV × Bool)} {r : Option (PV × Bool)} {fr : Fr} {H : Heap} (hr : RetF 4 k r) (h0 : gc [2, 3, 6] 0 ⟨fr, H⟩ = ⟨[(6, .d (I 0)), (3, .p 0 0 0), (2, .p 1 0 0)], [some (.box (K1 42) (.d y.dv)), some (.box (K1 42) (.d x.dv))]⟩) :
  kC T.env 0 fr H (.h (.loop [2, 3, 6] L143_1, k)) = brn (z.all fun p => AMandate.beq p.1 p.2) (.h (k (.exit 2) [(65, .d (.b false)), (6, .d (I z.length)), (3, .p 0 0 0), (2, .p 1 0 0)] [some (.box (K1 42) (.d y.dv)), some (.box (K1 42) (.d x.dv))], r)) := by
 have hm := mxl
 rw [loop_rounds z (fun i _ => ⟨[(6, .d (I i)), (3, .p 0 0 0), (2, .p 1 0 0)], [some (.box (K1 42) (.d y.dv)), some (.box (K1 42) (.d x.dv))]⟩) (fun _ _ => True) (fun i _ p c => if AMandate.beq p.1 p.2 = true then c () else r) (fun _ => k (.exit 2) [(65, .d (.b false)), (6, .d (I z.length)), (3, .p 0 0 0), (2, .p 1 0 0)] [some (.box (K1 42) (.d y.dv)), some (.box (K1 42) (.d x.dv))]) ?_ ?_ h0 trivial]
 ·rw [rounds_all (fun p => AMandate.beq p.1 p.2) r]
  ·cases z.all fun p => AMandate.beq p.1 p.2 <;> rfl
  ·exact fun _ _ _ _ => rfl
 ·intro B _ _ _
  simp [L143_1, hx]
 ·intro B _ i _ hi _ c hc
  have h1 : (i : Int) < z.length := by omega
  have h3 := wr1 (i := i) (by omega)
  have he : eqA [1, 1, 1, 1, 1, 1, 3] (.d (AMandate.dv z[i].1)) (.d (AMandate.dv z[i].2)) = some (AMandate.beq z[i].1 z[i].2) := by
   simp [eqA, eqL, eqK, AMandate.dv, AMandate.beq, ibq, sbq, Bool.and_assoc]
  simp [L143_1, h1, hi, he, hx, hy]
  repeat' (refine brn_split (fun h => ?_) (fun h => ?_) <;> (try simp at h) <;> (try simp [h, h3]))
  all_goals first
   | exact hr _ _ (by simp [Fr.get]) (by simp [ghosts, gh])
   | exact hc () _ _ trivial (by simp [gc, Fr.keep, reach, frRefs, heapRefs, PV.refs, place, gcH, orefs, Obj.refs, PV.ren, Obj.ren, Heap.obj, Fr.ren, gh, List.idxOf?_cons])
theorem lp143_2 (T : Tab) (x y : ABank) (z : List (ADebit × ADebit)) (hx : x.Debits.l = z.map Prod.fst) (hy : y.Debits.l = z.map Prod.snd) (hn : z.length ≤ maxLen) {k : KC (PV × Bool)} {r : Option (PV × Bool)} {fr : Fr} {H : Heap} (hr : RetF 4 k r) (h0 : gc [2, 3, 7] 0 ⟨fr, H⟩ = ⟨[(7, .d (I 0)), (3, .p 0 0 0), (2, .p 1 0 0)], [some (.box (K1 42) (.d y.dv)), some (.box (K1 42) (.d x.dv))]⟩) :
  kC T.env 0 fr H (.h (.loop [2, 3, 7] L143_2, k)) = brn (z.all fun p => ADebit.beq p.1 p.2) (.h (k (.exit 4) [(83, .d (.b false)), (7, .d (I z.length)), (3, .p 0 0 0), (2, .p 1 0 0)] [some (.box (K1 42) (.d y.dv)), some (.box (K1 42) (.d x.dv))], r)) := by
 have hm := mxl
 rw [loop_rounds z (fun i _ => ⟨[(7, .d (I i)), (3, .p 0 0 0), (2, .p 1 0 0)], [some (.box (K1 42) (.d y.dv)), some (.box (K1 42) (.d x.dv))]⟩) (fun _ _ => True) (fun i _ p c => if ADebit.beq p.1 p.2 = true then c () else r) (fun _ => k (.exit 4) [(83, .d (.b false)), (7, .d (I z.length)), (3, .p 0 0 0), (2, .p 1 0 0)] [some (.box (K1 42) (.d y.dv)), some (.box (K1 42) (.d x.dv))]) ?_ ?_ h0 trivial]
 ·rw [rounds_all (fun p => ADebit.beq p.1 p.2) r]
  ·cases z.all fun p => ADebit.beq p.1 p.2 <;> rfl
  ·exact fun _ _ _ _ => rfl
 ·intro B _ _ _
  simp [L143_2, hx]
 ·intro B _ i _ hi _ c hc
  have h1 : (i : Int) < z.length := by omega
  have h3 := wr1 (i := i) (by omega)
  have he : eqA [1, 1, 1, 1, 1, 1, 1, 1, 3] (.d (ADebit.dv z[i].1)) (.d (ADebit.dv z[i].2)) = some (ADebit.beq z[i].1 z[i].2) := by
   simp [eqA, eqL, eqK, ADebit.dv, ADebit.beq, ibq, sbq, Bool.and_assoc]
  simp [L143_2, h1, hi, he, hx, hy]
  repeat' (refine brn_split (fun h => ?_) (fun h => ?_) <;> (try simp at h) <;> (try simp [h, h3]))
  all_goals first
   | exact hr _ _ (by simp [Fr.get]) (by simp [ghosts, gh])
   | exact hc () _ _ trivial (by simp [gc, Fr.keep, reach, frRefs, heapRefs, PV.refs, place, gcH, orefs, Obj.refs, PV.ren, Obj.ren, Heap.obj, Fr.ren, gh, List.idxOf?_cons])
theorem lp143_3 (T : Tab) (x y : ABank) (z : List (AMessage × AMessage)) (hx : x.Inbox.l = z.map Prod.fst) (hy : y.Inbox.l = z.map Prod.snd) (hn : z.length ≤ maxLen) {k : KC (PV × Bool)} {r : Option (PV × Bool)} {fr : Fr} {H : Heap} (hr : RetF 4 k r) (h0 : gc [2, 3, 8] 0 ⟨fr, H⟩ = ⟨[(8, .d (I 0)), (3, .p 0 0 0), (2, .p 1 0 0)], [some (.box (K1 42) (.d y.dv)), some (.box (K1 42) (.d x.dv))]⟩) :
  kC T.env 0 fr H (.h (.loop [2, 3, 8] L143_3, k)) = brn (z.all fun p => AMessage.beq p.1 p.2) (.h (k (.exit 6) [(101, .d (.b false)), (8, .d (I z.length)), (3, .p 0 0 0), (2, .p 1 0 0)] [some (.box (K1 42) (.d y.dv)), some (.box (K1 42) (.d x.dv))], r)) := by
 have hm := mxl
 rw [loop_rounds z (fun i _ => ⟨[(8, .d (I i)), (3, .p 0 0 0), (2, .p 1 0 0)], [some (.box (K1 42) (.d y.dv)), some (.box (K1 42) (.d x.dv))]⟩) (fun _ _ => True) (fun i _ p c => if AMessage.beq p.1 p.2 = true then c () else r) (fun _ => k (.exit 6) [(101, .d (.b false)), (8, .d (I z.length)), (3, .p 0 0 0), (2, .p 1 0 0)] [some (.box (K1 42) (.d y.dv)), some (.box (K1 42) (.d x.dv))]) ?_ ?_ h0 trivial]
 ·rw [rounds_all (fun p => AMessage.beq p.1 p.2) r]
  ·cases z.all fun p => AMessage.beq p.1 p.2 <;> rfl
  ·exact fun _ _ _ _ => rfl
 ·intro B _ _ _
  simp [L143_3, hx]
 ·intro B _ i _ hi _ c hc
  have h1 : (i : Int) < z.length := by omega
  have h3 := wr1 (i := i) (by omega)
  have he : eqA [3, 1, 1, 1, 1, 1, 3] (.d (AMessage.dv z[i].1)) (.d (AMessage.dv z[i].2)) = some (AMessage.beq z[i].1 z[i].2) := by
   simp [eqA, eqL, eqK, AMessage.dv, AMessage.beq, ibq, sbq, Bool.and_assoc]
  simp [L143_3, h1, hi, he, hx, hy]
  repeat' (refine brn_split (fun h => ?_) (fun h => ?_) <;> (try simp at h) <;> (try simp [h, h3]))
  all_goals first
   | exact hr _ _ (by simp [Fr.get]) (by simp [ghosts, gh])
   | exact hc () _ _ trivial (by simp [gc, Fr.keep, reach, frRefs, heapRefs, PV.refs, place, gcH, orefs, Obj.refs, PV.ren, Obj.ren, Heap.obj, Fr.ren, gh, List.idxOf?_cons])
theorem lp144_0 (T : Tab) (x y : ACommand) (z : List (Int × Int)) (hx : x.Crashes.l = z.map Prod.fst) (hy : y.Crashes.l = z.map Prod.snd) (hn : z.length ≤ maxLen) {k : KC (PV × Bool)} {r : Option (PV × Bool)} {fr : Fr} {H : Heap} (hr : RetF 4 k r) (h0 : gc [2, 3, 5] 0 ⟨fr, H⟩ = ⟨[(5, .d (I 0)), (3, .p 0 0 0), (2, .p 1 0 0)], [some (.box (K1 29) (.d y.dv)), some (.box (K1 29) (.d x.dv))]⟩) :
  kC T.env 0 fr H (.h (.loop [2, 3, 5] L144_0, k)) = brn (z.all fun p => ibq p.1 p.2) (.h (k (.exit 0) [(92, .d (.b false)), (5, .d (I z.length)), (3, .p 0 0 0), (2, .p 1 0 0)] [some (.box (K1 29) (.d y.dv)), some (.box (K1 29) (.d x.dv))], r)) := by
 have hm := mxl
 rw [loop_rounds z (fun i _ => ⟨[(5, .d (I i)), (3, .p 0 0 0), (2, .p 1 0 0)], [some (.box (K1 29) (.d y.dv)), some (.box (K1 29) (.d x.dv))]⟩) (fun _ _ => True) (fun i _ p c => if ibq p.1 p.2 = true then c () else r) (fun _ => k (.exit 0) [(92, .d (.b false)), (5, .d (I z.length)), (3, .p 0 0 0), (2, .p 1 0 0)] [some (.box (K1 29) (.d y.dv)), some (.box (K1 29) (.d x.dv))]) ?_ ?_ h0 trivial]
 ·rw [rounds_all (fun p => ibq p.1 p.2) r]
  ·cases z.all fun p => ibq p.1 p.2 <;> rfl
  ·exact fun _ _ _ _ => rfl
 ·intro B _ _ _
  simp [L144_0, hx]
 ·intro B _ i _ hi _ c hc
  have h1 : (i : Int) < z.length := by omega
  have h3 := wr1 (i := i) (by omega)
  simp [L144_0, h1, hi, ibq, hx, hy]
  repeat' (refine brn_split (fun h => ?_) (fun h => ?_) <;> (try simp at h) <;> (try simp [h, h3]))
  all_goals first
   | exact hr _ _ (by simp [Fr.get]) (by simp [ghosts, gh])
   | exact hc () _ _ trivial (by simp [gc, Fr.keep, reach, frRefs, heapRefs, PV.refs, place, gcH, orefs, Obj.refs, PV.ren, Obj.ren, Heap.obj, Fr.ren, gh, List.idxOf?_cons])
theorem lp145_0 (T : Tab) (z : List (AMark × AMark)) (s t : Bool) (hn : z.length ≤ maxLen) {k : KC (PV × Bool)} {r : Option (PV × Bool)} {fr : Fr} {H : Heap} (hr : RetF 4 k r) (h0 : gc [0, 1, 5] 0 ⟨fr, H⟩ = ⟨[(5, .d (I 0)), (1, .d (.l (K1 5) ((z.map Prod.snd).map AMark.dv) t)), (0, .d (.l (K1 5) ((z.map Prod.fst).map AMark.dv) s))], []⟩) :
  kC T.env 0 fr H (.h (.loop [0, 1, 5] L145_0, k)) = brn (z.all fun p => AMark.beq p.1 p.2) (.h (k (.exit 0) [(14, .d (.b false)), (5, .d (I z.length)), (1, .d (.l (K1 5) ((z.map Prod.snd).map AMark.dv) t)), (0, .d (.l (K1 5) ((z.map Prod.fst).map AMark.dv) s))] [], r)) := by
 have hm := mxl
 rw [loop_rounds z (fun i _ => ⟨[(5, .d (I i)), (1, .d (.l (K1 5) ((z.map Prod.snd).map AMark.dv) t)), (0, .d (.l (K1 5) ((z.map Prod.fst).map AMark.dv) s))], []⟩) (fun _ _ => True) (fun i _ p c => if AMark.beq p.1 p.2 = true then c () else r) (fun _ => k (.exit 0) [(14, .d (.b false)), (5, .d (I z.length)), (1, .d (.l (K1 5) ((z.map Prod.snd).map AMark.dv) t)), (0, .d (.l (K1 5) ((z.map Prod.fst).map AMark.dv) s))] []) ?_ ?_ h0 trivial]
 ·rw [rounds_all (fun p => AMark.beq p.1 p.2) r]
  ·cases z.all fun p => AMark.beq p.1 p.2 <;> rfl
  ·exact fun _ _ _ _ => rfl
 ·intro B _ _ _
  simp [L145_0]
 ·intro B _ i _ hi _ c hc
  have h1 : (i : Int) < z.length := by omega
  have h3 := wr1 (i := i) (by omega)
  have he : eqA [1, 3, 3, 3, 1] (.d (AMark.dv z[i].1)) (.d (AMark.dv z[i].2)) = some (AMark.beq z[i].1 z[i].2) := by
   simp [eqA, eqL, eqK, AMark.dv, AMark.beq, ibq, sbq, Bool.and_assoc]
  simp [L145_0, h1, hi, he]
  repeat' (refine brn_split (fun h => ?_) (fun h => ?_) <;> (try simp at h) <;> (try simp [h, h3]))
  all_goals first
   | exact hr _ _ (by simp [Fr.get]) (by simp [ghosts, gh])
   | exact hc () _ _ trivial (by simp [gc, Fr.keep, reach, frRefs, heapRefs, PV.refs, gcH, PV.ren, Obj.ren, Heap.obj, Fr.ren, gh])
theorem lp300_0 (T : Tab) (z : List (Int × Int)) (s t : Bool) (hn : z.length ≤ maxLen) {k : KC (PV × Bool)} {r : Option (PV × Bool)} {fr : Fr} {H : Heap} (hr : RetF 4 k r) (h0 : gc [0, 1, 5] 0 ⟨fr, H⟩ = ⟨[(5, .d (I 0)), (1, .d (.l K0 ((z.map Prod.snd).map I) t)), (0, .d (.l K0 ((z.map Prod.fst).map I) s))], []⟩) :
  kC T.env 0 fr H (.h (.loop [0, 1, 5] L300_0, k)) = brn (z.all fun p => ibq p.1 p.2) (.h (k (.exit 0) [(14, .d (.b false)), (5, .d (I z.length)), (1, .d (.l K0 ((z.map Prod.snd).map I) t)), (0, .d (.l K0 ((z.map Prod.fst).map I) s))] [], r)) := by
 have hm := mxl
 rw [loop_rounds z (fun i _ => ⟨[(5, .d (I i)), (1, .d (.l K0 ((z.map Prod.snd).map I) t)), (0, .d (.l K0 ((z.map Prod.fst).map I) s))], []⟩) (fun _ _ => True) (fun i _ p c => if ibq p.1 p.2 = true then c () else r) (fun _ => k (.exit 0) [(14, .d (.b false)), (5, .d (I z.length)), (1, .d (.l K0 ((z.map Prod.snd).map I) t)), (0, .d (.l K0 ((z.map Prod.fst).map I) s))] []) ?_ ?_ h0 trivial]
 ·rw [rounds_all (fun p => ibq p.1 p.2) r]
  ·cases z.all fun p => ibq p.1 p.2 <;> rfl
  ·exact fun _ _ _ _ => rfl
 ·intro B _ _ _
  simp [L300_0]
 ·intro B _ i _ hi _ c hc
  have h1 : (i : Int) < z.length := by omega
  have h3 := wr1 (i := i) (by omega)
  simp [L300_0, h1, hi, ibq]
  repeat' (refine brn_split (fun h => ?_) (fun h => ?_) <;> (try simp at h) <;> (try simp [h, h3]))
  all_goals first
   | exact hr _ _ (by simp [Fr.get]) (by simp [ghosts, gh])
   | exact hc () _ _ trivial (by simp [gc, Fr.keep, reach, frRefs, heapRefs, PV.refs, gcH, PV.ren, Obj.ren, Heap.obj, Fr.ren, gh])
theorem lp301_0 (T : Tab) (x y : AInterest) (z : List (ATier × ATier)) (hx : x.Tiers.l = z.map Prod.fst) (hy : y.Tiers.l = z.map Prod.snd) (hn : z.length ≤ maxLen) {k : KC (PV × Bool)} {r : Option (PV × Bool)} {fr : Fr} {H : Heap} (hr : RetF 4 k r) (h0 : gc [2, 3, 5] 0 ⟨fr, H⟩ = ⟨[(5, .d (I 0)), (3, .p 0 0 0), (2, .p 1 0 0)], [some (.box (K1 5) (.d y.dv)), some (.box (K1 5) (.d x.dv))]⟩) :
  kC T.env 0 fr H (.h (.loop [2, 3, 5] L301_0, k)) = brn (z.all fun p => ATier.beq p.1 p.2) (.h (k (.exit 0) [(45, .d (.b false)), (5, .d (I z.length)), (3, .p 0 0 0), (2, .p 1 0 0)] [some (.box (K1 5) (.d y.dv)), some (.box (K1 5) (.d x.dv))], r)) := by
 have hm := mxl
 rw [loop_rounds z (fun i _ => ⟨[(5, .d (I i)), (3, .p 0 0 0), (2, .p 1 0 0)], [some (.box (K1 5) (.d y.dv)), some (.box (K1 5) (.d x.dv))]⟩) (fun _ _ => True) (fun i _ p c => if ATier.beq p.1 p.2 = true then c () else r) (fun _ => k (.exit 0) [(45, .d (.b false)), (5, .d (I z.length)), (3, .p 0 0 0), (2, .p 1 0 0)] [some (.box (K1 5) (.d y.dv)), some (.box (K1 5) (.d x.dv))]) ?_ ?_ h0 trivial]
 ·rw [rounds_all (fun p => ATier.beq p.1 p.2) r]
  ·cases z.all fun p => ATier.beq p.1 p.2 <;> rfl
  ·exact fun _ _ _ _ => rfl
 ·intro B _ _ _
  simp [L301_0, hx]
 ·intro B _ i _ hi _ c hc
  have h1 : (i : Int) < z.length := by omega
  have h3 := wr1 (i := i) (by omega)
  have he : eqA [1, 1] (.d (ATier.dv z[i].1)) (.d (ATier.dv z[i].2)) = some (ATier.beq z[i].1 z[i].2) := by
   simp [eqA, eqL, eqK, ATier.dv, ATier.beq, ibq]
  simp [L301_0, h1, hi, he, hx, hy]
  repeat' (refine brn_split (fun h => ?_) (fun h => ?_) <;> (try simp at h) <;> (try simp [h, h3]))
  all_goals first
   | exact hr _ _ (by simp [Fr.get]) (by simp [ghosts, gh])
   | exact hc () _ _ trivial (by simp [gc, Fr.keep, reach, frRefs, heapRefs, PV.refs, place, gcH, orefs, Obj.refs, PV.ren, Obj.ren, Heap.obj, Fr.ren, gh, List.idxOf?_cons])
theorem lp14_0 (T : Tab) (z : List (ALeg × ALeg)) (s t : Bool) (hn : z.length ≤ maxLen) {k : KC (PV × Bool)} {r : Option (PV × Bool)} {fr : Fr} {H : Heap} (hr : RetF 4 k r) (h0 : gc [0, 1, 5] 0 ⟨fr, H⟩ = ⟨[(5, .d (I 0)), (1, .d (.l (K1 3) ((z.map Prod.snd).map ALeg.dv) t)), (0, .d (.l (K1 3) ((z.map Prod.fst).map ALeg.dv) s))], []⟩) :
  kC T.env 0 fr H (.h (.loop [0, 1, 5] L14_0, k)) = brn (z.all fun p => ALeg.beq p.1 p.2) (.h (k (.exit 0) [(14, .d (.b false)), (5, .d (I z.length)), (1, .d (.l (K1 3) ((z.map Prod.snd).map ALeg.dv) t)), (0, .d (.l (K1 3) ((z.map Prod.fst).map ALeg.dv) s))] [], r)) := by
 have hm := mxl
 rw [loop_rounds z (fun i _ => ⟨[(5, .d (I i)), (1, .d (.l (K1 3) ((z.map Prod.snd).map ALeg.dv) t)), (0, .d (.l (K1 3) ((z.map Prod.fst).map ALeg.dv) s))], []⟩) (fun _ _ => True) (fun i _ p c => if ALeg.beq p.1 p.2 = true then c () else r) (fun _ => k (.exit 0) [(14, .d (.b false)), (5, .d (I z.length)), (1, .d (.l (K1 3) ((z.map Prod.snd).map ALeg.dv) t)), (0, .d (.l (K1 3) ((z.map Prod.fst).map ALeg.dv) s))] []) ?_ ?_ h0 trivial]
 ·rw [rounds_all (fun p => ALeg.beq p.1 p.2) r]
  ·cases z.all fun p => ALeg.beq p.1 p.2 <;> rfl
  ·exact fun _ _ _ _ => rfl
 ·intro B _ _ _
  simp [L14_0]
 ·intro B _ i _ hi _ c hc
  have h1 : (i : Int) < z.length := by omega
  have h3 := wr1 (i := i) (by omega)
  have he : eqA [1, 1, 3] (.d (ALeg.dv z[i].1)) (.d (ALeg.dv z[i].2)) = some (ALeg.beq z[i].1 z[i].2) := by
   simp [eqA, eqL, eqK, ALeg.dv, ALeg.beq, ibq, sbq, Bool.and_assoc]
  simp [L14_0, h1, hi, he]
  repeat' (refine brn_split (fun h => ?_) (fun h => ?_) <;> (try simp at h) <;> (try simp [h, h3]))
  all_goals first
   | exact hr _ _ (by simp [Fr.get]) (by simp [ghosts, gh])
   | exact hc () _ _ trivial (by simp [gc, Fr.keep, reach, frRefs, heapRefs, PV.refs, gcH, PV.ren, Obj.ren, Heap.obj, Fr.ren, gh])
end Go.Sim
end
section
namespace Go.Sim
set_option maxRecDepth 10000
theorem val14 (T : Tab) (hF : T.F 14 = some F14) (x y : List ALeg) (s t : Bool) (hn : x.length ≤ maxLen) : T.val 14 [.l (K1 3) (x.map ALeg.dv) s, .l (K1 3) (y.map ALeg.dv) t] = some (.d (.b (lsb ALeg.beq x y)), false) := by
 rw [val_k T hF rfl]
 by_cases hl : x.length = y.length
 ·obtain ⟨z, rfl, rfl⟩ := zip_of x y hl
  rw [lsb_zip]
  have hz : z.length ≤ maxLen := by simpa using hn
  have lp := fun k fr H => @lp14_0 T z s t hz k (some (.d (.b false), false)) fr H
  simp [F14, Fr.ofArgs]
  rw [lp]
  ·refine brn_split (fun h => ?_) (fun h => ?_)
   ·simp [h]
   ·rw [h]
  ·simp [RetF_bl, RetF_sq, RetF_fin]
  ·simp [gc, Fr.keep, reach, frRefs, heapRefs, PV.refs, gcH, PV.ren, Obj.ren, Heap.obj, Fr.ren, gh]
 ·rw [lsb_len _ _ hl]
  have hl' : ((x.length : Int) == (y.length : Int)) = false := by simp; omega
  simp [F14, Fr.ofArgs, hl', bne]
theorem val95 (T : Tab) (hF : T.F 95 = some F95) (x y : List ADue) (s t : Bool) (hn : x.length ≤ maxLen) : T.val 95 [.l (K1 4) (x.map ADue.dv) s, .l (K1 4) (y.map ADue.dv) t] = some (.d (.b (lsb ADue.beq x y)), false) := by
 rw [val_k T hF rfl]
 by_cases hl : x.length = y.length
 ·obtain ⟨z, rfl, rfl⟩ := zip_of x y hl
  rw [lsb_zip]
  have hz : z.length ≤ maxLen := by simpa using hn
  have lp := fun k fr H => @lp95_0 T z s t hz k (some (.d (.b false), false)) fr H
  simp [F95, Fr.ofArgs]
  rw [lp]
  ·refine brn_split (fun h => ?_) (fun h => ?_)
   ·simp [h]
   ·rw [h]
  ·simp [RetF_bl, RetF_sq, RetF_fin]
  ·simp [gc, Fr.keep, reach, frRefs, heapRefs, PV.refs, gcH, PV.ren, Obj.ren, Heap.obj, Fr.ren, gh]
 ·rw [lsb_len _ _ hl]
  have hl' : ((x.length : Int) == (y.length : Int)) = false := by simp; omega
  simp [F95, Fr.ofArgs, hl', bne]
theorem val96 (T : Tab) (hF : T.F 96 = some F96) (x y : List AChange) (s t : Bool) (hn : x.length ≤ maxLen) : T.val 96 [.l (K1 14) (x.map AChange.dv) s, .l (K1 14) (y.map AChange.dv) t] = some (.d (.b (lsb AChange.beq x y)), false) := by
 rw [val_k T hF rfl]
 by_cases hl : x.length = y.length
 ·obtain ⟨z, rfl, rfl⟩ := zip_of x y hl
  rw [lsb_zip]
  have hz : z.length ≤ maxLen := by simpa using hn
  have lp := fun k fr H => @lp96_0 T z s t hz k (some (.d (.b false), false)) fr H
  simp [F96, Fr.ofArgs]
  rw [lp]
  ·refine brn_split (fun h => ?_) (fun h => ?_)
   ·simp [h]
   ·rw [h]
  ·simp [RetF_bl, RetF_sq, RetF_fin]
  ·simp [gc, Fr.keep, reach, frRefs, heapRefs, PV.refs, gcH, PV.ren, Obj.ren, Heap.obj, Fr.ren, gh]
 ·rw [lsb_len _ _ hl]
  have hl' : ((x.length : Int) == (y.length : Int)) = false := by simp; omega
  simp [F96, Fr.ofArgs, hl', bne]
theorem val140 (T : Tab) (hF : T.F 140 = some F140) (x y : List AAccount) (s t : Bool) (hn : x.length ≤ maxLen) : T.val 140 [.l (K1 7) (x.map AAccount.dv) s, .l (K1 7) (y.map AAccount.dv) t] = some (.d (.b (lsb AAccount.beq x y)), false) := by
 rw [val_k T hF rfl]
 by_cases hl : x.length = y.length
 ·obtain ⟨z, rfl, rfl⟩ := zip_of x y hl
  rw [lsb_zip]
  have hz : z.length ≤ maxLen := by simpa using hn
  have lp := fun k fr H => @lp140_0 T z s t hz k (some (.d (.b false), false)) fr H
  simp [F140, Fr.ofArgs]
  rw [lp]
  ·refine brn_split (fun h => ?_) (fun h => ?_)
   ·simp [h]
   ·rw [h]
  ·simp [RetF_bl, RetF_sq, RetF_fin]
  ·simp [gc, Fr.keep, reach, frRefs, heapRefs, PV.refs, gcH, PV.ren, Obj.ren, Heap.obj, Fr.ren, gh]
 ·rw [lsb_len _ _ hl]
  have hl' : ((x.length : Int) == (y.length : Int)) = false := by simp; omega
  simp [F140, Fr.ofArgs, hl', bne]
theorem val141 (T : Tab) (hF : T.F 141 = some F141) (x y : List APeriod) (s t : Bool) (hn : x.length ≤ maxLen) : T.val 141 [.l (K1 11) (x.map APeriod.dv) s, .l (K1 11) (y.map APeriod.dv) t] = some (.d (.b (lsb APeriod.beq x y)), false) := by
 rw [val_k T hF rfl]
 by_cases hl : x.length = y.length
 ·obtain ⟨z, rfl, rfl⟩ := zip_of x y hl
  rw [lsb_zip]
  have hz : z.length ≤ maxLen := by simpa using hn
  have lp := fun k fr H => @lp141_0 T z s t hz k (some (.d (.b false), false)) fr H
  simp [F141, Fr.ofArgs]
  rw [lp]
  ·refine brn_split (fun h => ?_) (fun h => ?_)
   ·simp [h]
   ·rw [h]
  ·simp [RetF_bl, RetF_sq, RetF_fin]
  ·simp [gc, Fr.keep, reach, frRefs, heapRefs, PV.refs, gcH, PV.ren, Obj.ren, Heap.obj, Fr.ren, gh]
 ·rw [lsb_len _ _ hl]
  have hl' : ((x.length : Int) == (y.length : Int)) = false := by simp; omega
  simp [F141, Fr.ofArgs, hl', bne]
theorem val145 (T : Tab) (hF : T.F 145 = some F145) (x y : List AMark) (s t : Bool) (hn : x.length ≤ maxLen) : T.val 145 [.l (K1 5) (x.map AMark.dv) s, .l (K1 5) (y.map AMark.dv) t] = some (.d (.b (lsb AMark.beq x y)), false) := by
 rw [val_k T hF rfl]
 by_cases hl : x.length = y.length
 ·obtain ⟨z, rfl, rfl⟩ := zip_of x y hl
  rw [lsb_zip]
  have hz : z.length ≤ maxLen := by simpa using hn
  have lp := fun k fr H => @lp145_0 T z s t hz k (some (.d (.b false), false)) fr H
  simp [F145, Fr.ofArgs]
  rw [lp]
  ·refine brn_split (fun h => ?_) (fun h => ?_)
   ·simp [h]
   ·rw [h]
  ·simp [RetF_bl, RetF_sq, RetF_fin]
  ·simp [gc, Fr.keep, reach, frRefs, heapRefs, PV.refs, gcH, PV.ren, Obj.ren, Heap.obj, Fr.ren, gh]
 ·rw [lsb_len _ _ hl]
  have hl' : ((x.length : Int) == (y.length : Int)) = false := by simp; omega
  simp [F145, Fr.ofArgs, hl', bne]
theorem val300 (T : Tab) (hF : T.F 300 = some F300) (x y : List Int) (s t : Bool) (hn : x.length ≤ maxLen) : T.val 300 [.l K0 (x.map I) s, .l K0 (y.map I) t] = some (.d (.b (lsb ibq x y)), false) := by
 rw [val_k T hF rfl]
 by_cases hl : x.length = y.length
 ·obtain ⟨z, rfl, rfl⟩ := zip_of x y hl
  rw [lsb_zip]
  have hz : z.length ≤ maxLen := by simpa using hn
  have lp := fun k fr H => @lp300_0 T z s t hz k (some (.d (.b false), false)) fr H
  simp [F300, Fr.ofArgs]
  rw [lp]
  ·refine brn_split (fun h => ?_) (fun h => ?_)
   ·simp [h]
   ·rw [h]
  ·simp [RetF_bl, RetF_sq, RetF_fin]
  ·simp [gc, Fr.keep, reach, frRefs, heapRefs, PV.refs, gcH, PV.ren, Obj.ren, Heap.obj, Fr.ren, gh]
 ·rw [lsb_len _ _ hl]
  have hl' : ((x.length : Int) == (y.length : Int)) = false := by simp; omega
  simp [F300, Fr.ofArgs, hl', bne]
end Go.Sim
end
end
section
namespace Go.Sim
def tabC : PT :=
 (.bin 144 F144 (.bin 126 F126 (.bin 97 F97 (.bin 82 F82 (.bin 14 F14 (.bin 9 F9 .nil .nil) (.bin 81 F81 .nil .nil)) (.bin 95 F95 (.bin 91 F91 .nil .nil) (.bin 96 F96 .nil .nil))) (.bin 122 F122 (.bin 99 F99 (.bin 98 F98 .nil .nil) (.bin 121 F121 .nil .nil)) (.bin 124 F124 (.bin 123 F123 .nil .nil) (.bin 125 F125 .nil .nil)))) (.bin 134 F134 (.bin 130 F130 (.bin 128 F128 (.bin 127 F127 .nil .nil) (.bin 129 F129 .nil .nil)) (.bin 132 F132 (.bin 131 F131 .nil .nil) (.bin 133 F133 .nil .nil))) (.bin 140 F140 (.bin 136 F136 (.bin 135 F135 .nil .nil) (.bin 139 F139 .nil .nil)) (.bin 142 F142 (.bin 141 F141 .nil .nil) (.bin 143 F143 .nil .nil))))) (.bin 222 F222 (.bin 214 F214 (.bin 210 F210 (.bin 208 F208 (.bin 145 F145 .nil .nil) (.bin 209 F209 .nil .nil)) (.bin 212 F212 (.bin 211 F211 .nil .nil) (.bin 213 F213 .nil .nil))) (.bin 218 F218 (.bin 216 F216 (.bin 215 F215 .nil .nil) (.bin 217 F217 .nil .nil)) (.bin 220 F220 (.bin 219 F219 .nil .nil) (.bin 221 F221 .nil .nil)))) (.bin 297 F297 (.bin 293 F293 (.bin 224 F224 (.bin 223 F223 .nil .nil) (.bin 292 F292 .nil .nil)) (.bin 295 F295 (.bin 294 F294 .nil .nil) (.bin 296 F296 .nil .nil))) (.bin 301 F301 (.bin 299 F299 (.bin 298 F298 .nil .nil) (.bin 300 F300 .nil .nil)) (.bin 303 F303 (.bin 302 F302 .nil .nil) (.bin 364 F364 .nil .nil))))))
end Go.Sim
end
section
open Go.Sim
attribute [local simp ↓] kC_skip kC_ret kC_exit kC_seq kC_block kC_reg kC_cond kC_condc sqK blK lpK kO_nil kO_O kO_E kO_OG kO_EG grd_b grd_t tst_b brn_true brn_false brn_not chk_T b_mov b_pick b_alloc b_box b_load b_store b_bin b_un b_eqv b_faddr b_field b_iaddr b_sl b_len b_app b_call b_call1 b_callR b_ext bo_some bo_none bo2_some bo2_none bo_iaddr bo_addS bo_quo bo_rem bo_bnd bo_bnd0 ld_q0 ld_qw ld_p subP0 subPw bo_moveP bo_moveQ bo_lenl bo_lens bo_lenr bo_add bo_sub bo_mul bo_eql bo_neq bo_lss bo_leq bo_gtr bo_geq bo_neg bo_not bo_eqS bo_neS grd_nb b_slS slSK_s extK_t ownL_l fin_ret fin_norm bo_res0 bo_rest bo_resc st_p stK_box b_callv callvK_f0 callvK_f1 mkf_b subPs ld_qs kC_regS0 kC_regS1 kC_regS2 kC_regS3 kC_regS4 kC_regS5 b_eqb eqbK_b
attribute [local simp] K_refl obj_0 obj_s get_c get_n drop_c drop_n set_c set_n fix_c fix_n rd IOp.adds nadds gh nid rgK rdS ghosts_c ghosts_n packed1 packed2 purT_b purT_i purT_s purT_a purT_lt purT_lf K_ss K_ns K_sn plains_n plains_c env_val env_ref purs_n purs_d put_0 put_s
section
namespace Go.Sim
set_option maxRecDepth 10000
set_option maxHeartbeats 8000000
theorem val142 (T : Tab) (hT : ∀ n F, tabC.get n = some F → T.F n = some F) (x y : AStatement) (hx : x.ok) : T.val 142 [x.dv, y.dv] = some (.d (.b (AStatement.beq x y)), false) := by
 rw [val_k T (hT 142 F142 rfl) rfl]
 by_cases hl0 : x.Lines.l.length = y.Lines.l.length
 rotate_left
 ·have hl0' : ((x.Lines.l.length : Int) == (y.Lines.l.length : Int)) = false := by simp; omega
  simp [F142, Fr.ofArgs, bne]
  repeat' (refine brn_split (fun h => ?_) (fun h => ?_) <;> (try simp at h) <;> (try simp [h, hl0', bne]))
  all_goals simp_all [AStatement.beq, ibq, lsb_len _ _ hl0]
 obtain ⟨z0, hx0, hy0⟩ := zip_of x.Lines.l y.Lines.l hl0
 have hn0 : z0.length ≤ maxLen := by have := (hx.2.2.2.2.2.2).1; rw [hx0] at this; simpa using this
 have lp0 := fun k fr H => @lp142_0 T x y z0 hx0 hy0 hn0 k (some (.d (.b false), false)) fr H
 have hz0 : lsb APosting.beq x.Lines.l y.Lines.l = z0.all fun p => APosting.beq p.1 p.2 := by rw [hx0, hy0, lsb_zip]
 obtain ⟨q0, hq0⟩ : ∃ q, (z0.all fun p => APosting.beq p.1 p.2) = q := ⟨_, rfl⟩
 simp only [hq0] at lp0 hz0
 clear hq0
 simp [F142, Fr.ofArgs]
 repeat' first
  | (refine brn_split (fun h => ?_) (fun h => ?_) <;> (try simp at h) <;> (try simp [h, hx0, hy0]))
  | refine (lp0 _ _ _ (by simp [RetF_bl, RetF_sq, RetF_fin]) (by simp [gc, Fr.keep, reach, frRefs, heapRefs, PV.refs, place, gcH, orefs, Obj.refs, PV.ren, Obj.ren, Heap.obj, Fr.ren, gh, List.idxOf?_cons])).trans ?_
 all_goals simp_all [AStatement.beq, ibq]
end Go.Sim
end
end
section
namespace Go.Sim
def bqBk (x y : ABooks) : Bool := lsb ACurrency.beq x.Currencies.l y.Currencies.l && lsb AGl.beq x.Chart.l y.Chart.l && APlan.beq x.Plan y.Plan && lsb ACalendar.beq x.Calendars.l y.Calendars.l && lsb AProduct.beq x.Products.l y.Products.l
def bqOr (x y : ABank) : Bool := lsb AOrder.beq x.Orders.l y.Orders.l && lsb AMandate.beq x.Mandates.l y.Mandates.l && lsb ADebit.beq x.Debits.l y.Debits.l && lsb AMessage.beq x.Inbox.l y.Inbox.l
def bqPe (x y : ABank) : Bool := lsb APeriod.beq x.Periods.l y.Periods.l && lsb ALoan.beq x.Loans.l y.Loans.l && lsb AStatement.beq x.Statements.l y.Statements.l && bqOr x y
def bqUs (x y : ABank) : Bool := lsb AUser.beq x.Users.l y.Users.l && lsb ARequest.beq x.Requests.l y.Requests.l && ANight.beq x.Night y.Night && lsb AMark.beq x.Trail.l y.Trail.l
end Go.Sim
end
section
open Go.Sim
attribute [local simp ↓] kC_skip kC_ret kC_exit kC_seq kC_block kC_reg kC_cond kC_condc sqK blK lpK kO_nil kO_O kO_E kO_OG kO_EG grd_b grd_t tst_b brn_true brn_false brn_not chk_T b_mov b_pick b_alloc b_box b_load b_store b_bin b_un b_eqv b_faddr b_field b_iaddr b_sl b_len b_app b_call b_call1 b_callR b_ext bo_some bo_none bo2_some bo2_none bo_iaddr bo_addS bo_quo bo_rem bo_bnd bo_bnd0 ld_q0 ld_qw ld_p subP0 subPw bo_moveP bo_moveQ bo_lenl bo_lens bo_lenr bo_add bo_sub bo_mul bo_eql bo_neq bo_lss bo_leq bo_gtr bo_geq bo_neg bo_not bo_eqS bo_neS grd_nb b_slS slSK_s extK_t ownL_l fin_ret fin_norm bo_res0 bo_rest bo_resc st_p stK_box b_callv callvK_f0 callvK_f1 mkf_b subPs ld_qs kC_regS0 kC_regS1 kC_regS2 kC_regS3 kC_regS4 kC_regS5 b_eqb eqbK_b
attribute [local simp] K_refl obj_0 obj_s get_c get_n drop_c drop_n set_c set_n fix_c fix_n rd IOp.adds nadds gh nid rgK rdS ghosts_c ghosts_n packed1 packed2 purT_b purT_i purT_s purT_a purT_lt purT_lf K_ss K_ns K_sn plains_n plains_c env_val env_ref purs_n purs_d put_0 put_s
section
namespace Go.Sim
set_option maxRecDepth 10000
set_option maxHeartbeats 8000000
theorem val143 (T : Tab) (hT : ∀ n F, tabC.get n = some F → T.F n = some F) (x y : ABank) (hx : x.ok) : T.val 143 [x.dv, y.dv] = some (.d (.b (bqOr x y)), false) := by
 rw [val_k T (hT 143 F143 rfl) rfl]
 by_cases hl0 : x.Orders.l.length = y.Orders.l.length
 rotate_left
 ·have hl0' : ((x.Orders.l.length : Int) == (y.Orders.l.length : Int)) = false := by simp; omega
  simp [F143, Fr.ofArgs, hl0', bne]
  repeat' (refine brn_split (fun h => ?_) (fun h => ?_) <;> (try simp at h) <;> (try simp [h, hl0, hl0', bne]))
  all_goals simp_all [bqOr, lsb_len _ _ hl0]
 by_cases hl1 : x.Mandates.l.length = y.Mandates.l.length
 rotate_left
 ·have hl1' : ((x.Mandates.l.length : Int) == (y.Mandates.l.length : Int)) = false := by simp; omega
  simp [F143, Fr.ofArgs, bne]
  repeat' (refine brn_split (fun h => ?_) (fun h => ?_) <;> (try simp at h) <;> (try simp [h, hl1', bne]))
  all_goals simp_all [bqOr, lsb_len _ _ hl1]
 by_cases hl2 : x.Debits.l.length = y.Debits.l.length
 rotate_left
 ·have hl2' : ((x.Debits.l.length : Int) == (y.Debits.l.length : Int)) = false := by simp; omega
  simp [F143, Fr.ofArgs, bne]
  repeat' (refine brn_split (fun h => ?_) (fun h => ?_) <;> (try simp at h) <;> (try simp [h, hl2', bne]))
  all_goals simp_all [bqOr, lsb_len _ _ hl2]
 by_cases hl3 : x.Inbox.l.length = y.Inbox.l.length
 rotate_left
 ·have hl3' : ((x.Inbox.l.length : Int) == (y.Inbox.l.length : Int)) = false := by simp; omega
  simp [F143, Fr.ofArgs, bne]
  repeat' (refine brn_split (fun h => ?_) (fun h => ?_) <;> (try simp at h) <;> (try simp [h, hl3', bne]))
  all_goals simp_all [bqOr, lsb_len _ _ hl3]
 obtain ⟨z0, hx0, hy0⟩ := zip_of x.Orders.l y.Orders.l hl0
 have hn0 : z0.length ≤ maxLen := by have := (hx.2.2.2.2.2.2.1).1; rw [hx0] at this; simpa using this
 have lp0 := fun k fr H => @lp143_0 T x y z0 hx0 hy0 hn0 k (some (.d (.b false), false)) fr H
 have hz0 : lsb AOrder.beq x.Orders.l y.Orders.l = z0.all fun p => AOrder.beq p.1 p.2 := by rw [hx0, hy0, lsb_zip]
 obtain ⟨q0, hq0⟩ : ∃ q, (z0.all fun p => AOrder.beq p.1 p.2) = q := ⟨_, rfl⟩
 simp only [hq0] at lp0 hz0
 clear hq0
 obtain ⟨z1, hx1, hy1⟩ := zip_of x.Mandates.l y.Mandates.l hl1
 have hn1 : z1.length ≤ maxLen := by have := (hx.2.2.2.2.2.2.2.1).1; rw [hx1] at this; simpa using this
 have lp1 := fun k fr H => @lp143_1 T x y z1 hx1 hy1 hn1 k (some (.d (.b false), false)) fr H
 have hz1 : lsb AMandate.beq x.Mandates.l y.Mandates.l = z1.all fun p => AMandate.beq p.1 p.2 := by rw [hx1, hy1, lsb_zip]
 obtain ⟨q1, hq1⟩ : ∃ q, (z1.all fun p => AMandate.beq p.1 p.2) = q := ⟨_, rfl⟩
 simp only [hq1] at lp1 hz1
 clear hq1
 obtain ⟨z2, hx2, hy2⟩ := zip_of x.Debits.l y.Debits.l hl2
 have hn2 : z2.length ≤ maxLen := by have := (hx.2.2.2.2.2.2.2.2.1).1; rw [hx2] at this; simpa using this
 have lp2 := fun k fr H => @lp143_2 T x y z2 hx2 hy2 hn2 k (some (.d (.b false), false)) fr H
 have hz2 : lsb ADebit.beq x.Debits.l y.Debits.l = z2.all fun p => ADebit.beq p.1 p.2 := by rw [hx2, hy2, lsb_zip]
 obtain ⟨q2, hq2⟩ : ∃ q, (z2.all fun p => ADebit.beq p.1 p.2) = q := ⟨_, rfl⟩
 simp only [hq2] at lp2 hz2
 clear hq2
 obtain ⟨z3, hx3, hy3⟩ := zip_of x.Inbox.l y.Inbox.l hl3
 have hn3 : z3.length ≤ maxLen := by have := (hx.2.2.2.2.2.2.2.2.2.1).1; rw [hx3] at this; simpa using this
 have lp3 := fun k fr H => @lp143_3 T x y z3 hx3 hy3 hn3 k (some (.d (.b false), false)) fr H
 have hz3 : lsb AMessage.beq x.Inbox.l y.Inbox.l = z3.all fun p => AMessage.beq p.1 p.2 := by rw [hx3, hy3, lsb_zip]
 obtain ⟨q3, hq3⟩ : ∃ q, (z3.all fun p => AMessage.beq p.1 p.2) = q := ⟨_, rfl⟩
 simp only [hq3] at lp3 hz3
 clear hq3
 simp [F143, Fr.ofArgs, hx0, hy0, hx1, hy1, hx2, hy2, hx3, hy3]
 repeat' first
  | (refine brn_split (fun h => ?_) (fun h => ?_) <;> (try simp at h) <;> (try simp))
  | refine (lp0 _ _ _ (by simp [RetF_bl, RetF_sq, RetF_fin]) (by simp [gc, Fr.keep, reach, frRefs, heapRefs, PV.refs, place, gcH, orefs, Obj.refs, PV.ren, Obj.ren, Heap.obj, Fr.ren, gh, List.idxOf?_cons])).trans ?_
  | refine (lp1 _ _ _ (by simp [RetF_bl, RetF_sq, RetF_fin]) (by simp [gc, Fr.keep, reach, frRefs, heapRefs, PV.refs, place, gcH, orefs, Obj.refs, PV.ren, Obj.ren, Heap.obj, Fr.ren, gh, List.idxOf?_cons])).trans ?_
  | refine (lp2 _ _ _ (by simp [RetF_bl, RetF_sq, RetF_fin]) (by simp [gc, Fr.keep, reach, frRefs, heapRefs, PV.refs, place, gcH, orefs, Obj.refs, PV.ren, Obj.ren, Heap.obj, Fr.ren, gh, List.idxOf?_cons])).trans ?_
  | refine (lp3 _ _ _ (by simp [RetF_bl, RetF_sq, RetF_fin]) (by simp [gc, Fr.keep, reach, frRefs, heapRefs, PV.refs, place, gcH, orefs, Obj.refs, PV.ren, Obj.ren, Heap.obj, Fr.ren, gh, List.idxOf?_cons])).trans ?_
 all_goals simp_all [bqOr]
end Go.Sim
end
section
namespace Go.Sim
set_option maxRecDepth 10000
set_option maxHeartbeats 8000000
theorem val81 (T : Tab) (hT : ∀ n F, tabC.get n = some F → T.F n = some F) (x y : ALoan) (hx : x.ok) : T.val 81 [x.dv, y.dv] = some (.d (.b (ALoan.beq x y)), false) := by
 rw [val_k T (hT 81 F81 rfl) rfl]
 have d0 := val95 T (hT 95 F95 rfl) x.Dues.l y.Dues.l x.Dues.t y.Dues.t (hx.2.2.2.2.2.2.2.2.2.2.2.2.1).1
 have d1 := val96 T (hT 96 F96 rfl) x.Changes.l y.Changes.l x.Changes.t y.Changes.t (hx.2.2.2.2.2.2.2.2.2.2.2.2.2).1
 have e85 : eqA [1, 1, 1, 1, 1, 1, 1, 1, 1, 1, 3, 3] (.d x.Terms.dv) (.d y.Terms.dv) = some (ATerms.beq x.Terms y.Terms) := by
  simp [eqA, eqL, eqK, ATerms.dv, ATerms.beq, ibq, sbq, Bool.and_assoc]
 simp [F81, Fr.ofArgs]
 repeat' (refine brn_split (fun h => ?_) (fun h => ?_) <;> (try simp at h) <;> (try simp [h, d0, d1, e85]))
 all_goals simp_all [ALoan.beq, ibq]
end Go.Sim
end
section
namespace Go.Sim
set_option maxRecDepth 10000
set_option maxHeartbeats 8000000
theorem val98 (T : Tab) (hT : ∀ n F, tabC.get n = some F → T.F n = some F) (x y : ABank) (hx : x.ok) : T.val 98 [x.dv, y.dv] = some (.d (.b (bqPe x y)), false) := by
 rw [val_k T (hT 98 F98 rfl) rfl]
 have d0 := val141 T (hT 141 F141 rfl) x.Periods.l y.Periods.l x.Periods.t y.Periods.t (hx.2.2.2.2.1).1
 have d1 := val143 T hT x y hx
 by_cases hl0 : x.Loans.l.length = y.Loans.l.length
 rotate_left
 ·have hl0' : ((x.Loans.l.length : Int) == (y.Loans.l.length : Int)) = false := by simp; omega
  simp [F98, Fr.ofArgs, d0]
  repeat' (refine brn_split (fun h => ?_) (fun h => ?_) <;> (try simp at h) <;> (try simp [h, hl0', bne]))
  all_goals simp_all [bqPe, lsb_len _ _ hl0]
 by_cases hl1 : x.Statements.l.length = y.Statements.l.length
 rotate_left
 ·have hl1' : ((x.Statements.l.length : Int) == (y.Statements.l.length : Int)) = false := by simp; omega
  simp [F98, Fr.ofArgs, d0]
  repeat' (refine brn_split (fun h => ?_) (fun h => ?_) <;> (try simp at h) <;> (try simp [h, hl1', bne]))
  all_goals simp_all [bqPe, lsb_len _ _ hl1]
 obtain ⟨z0, hx0, hy0⟩ := zip_of x.Loans.l y.Loans.l hl0
 have hn0 : z0.length ≤ maxLen := by have := (hx.2.2.2.2.2.1).1; rw [hx0] at this; simpa using this
 have lp0 := fun k fr H => @lp98_0 T x y z0 hx0 hy0 (fun p hp => val81 T hT p.1 p.2 ((hx.2.2.2.2.2.1).2 p.1 (by rw [hx0]; exact List.mem_map_of_mem hp))) hn0 k (some (.d (.b false), false)) fr H
 have hz0 : lsb ALoan.beq x.Loans.l y.Loans.l = z0.all fun p => ALoan.beq p.1 p.2 := by rw [hx0, hy0, lsb_zip]
 obtain ⟨q0, hq0⟩ : ∃ q, (z0.all fun p => ALoan.beq p.1 p.2) = q := ⟨_, rfl⟩
 simp only [hq0] at lp0 hz0
 clear hq0
 obtain ⟨z1, hx1, hy1⟩ := zip_of x.Statements.l y.Statements.l hl1
 have hn1 : z1.length ≤ maxLen := by have := (hx.2.2.2.2.2.2.2.2.2.2.1).1; rw [hx1] at this; simpa using this
 have lp1 := fun k fr H => @lp98_1 T x y z1 hx1 hy1 (fun p hp => val142 T hT p.1 p.2 ((hx.2.2.2.2.2.2.2.2.2.2.1).2 p.1 (by rw [hx1]; exact List.mem_map_of_mem hp))) hn1 k (some (.d (.b false), false)) fr H
 have hz1 : lsb AStatement.beq x.Statements.l y.Statements.l = z1.all fun p => AStatement.beq p.1 p.2 := by rw [hx1, hy1, lsb_zip]
 obtain ⟨q1, hq1⟩ : ∃ q, (z1.all fun p => AStatement.beq p.1 p.2) = q := ⟨_, rfl⟩
 simp only [hq1] at lp1 hz1
 clear hq1
 simp [F98, Fr.ofArgs, d0]
 repeat' first
  | (refine brn_split (fun h => ?_) (fun h => ?_) <;> (try simp at h) <;> (try simp [h, d1, hx0, hy0, hx1, hy1]))
  | refine (lp0 _ _ _ (by simp [RetF_bl, RetF_sq, RetF_fin]) (by simp [gc, Fr.keep, reach, frRefs, heapRefs, PV.refs, place, gcH, orefs, Obj.refs, PV.ren, Obj.ren, Heap.obj, Fr.ren, gh, List.idxOf?_cons])).trans ?_
  | refine (lp1 _ _ _ (by simp [RetF_bl, RetF_sq, RetF_fin]) (by simp [gc, Fr.keep, reach, frRefs, heapRefs, PV.refs, place, gcH, orefs, Obj.refs, PV.ren, Obj.ren, Heap.obj, Fr.ren, gh, List.idxOf?_cons])).trans ?_
 all_goals simp_all [bqPe]
end Go.Sim
end
section
namespace Go.Sim
set_option maxRecDepth 10000
set_option maxHeartbeats 8000000
theorem val144 (T : Tab) (hT : ∀ n F, tabC.get n = some F → T.F n = some F) (x y : ACommand) (hx : x.ok) : T.val 144 [x.dv, y.dv] = some (.d (.b (ACommand.beq x y)), false) := by
 rw [val_k T (hT 144 F144 rfl) rfl]
 have e71 : eqA [1, 1, 1, 1, 1, 1, 1, 1, 1, 1, 3, 3] (.d x.Terms.dv) (.d y.Terms.dv) = some (ATerms.beq x.Terms y.Terms) := by
  simp [eqA, eqL, eqK, ATerms.dv, ATerms.beq, ibq, sbq, Bool.and_assoc]
 have e77 : eqA [3, 1, 1, 1, 1, 1, 3] (.d x.Message.dv) (.d y.Message.dv) = some (AMessage.beq x.Message y.Message) := by
  simp [eqA, eqL, eqK, AMessage.dv, AMessage.beq, ibq, sbq, Bool.and_assoc]
 by_cases hl0 : x.Crashes.l.length = y.Crashes.l.length
 rotate_left
 ·have hl0' : ((x.Crashes.l.length : Int) == (y.Crashes.l.length : Int)) = false := by simp; omega
  simp [F144, Fr.ofArgs, bne]
  repeat' (refine brn_split (fun h => ?_) (fun h => ?_) <;> (try simp at h) <;> (try simp [h, e71, e77, hl0', bne]))
  all_goals simp_all [ACommand.beq, ibq, sbq, lsb_len _ _ hl0]
 obtain ⟨z0, hx0, hy0⟩ := zip_of x.Crashes.l y.Crashes.l hl0
 have hn0 : z0.length ≤ maxLen := by have := (hx.2.2.2.2.2.2.2.2.2.2.2).1; rw [hx0] at this; simpa using this
 have lp0 := fun k fr H => @lp144_0 T x y z0 hx0 hy0 hn0 k (some (.d (.b false), false)) fr H
 have hz0 : lsb ibq x.Crashes.l y.Crashes.l = z0.all fun p => ibq p.1 p.2 := by rw [hx0, hy0, lsb_zip]
 obtain ⟨q0, hq0⟩ : ∃ q, (z0.all fun p => ibq p.1 p.2) = q := ⟨_, rfl⟩
 simp only [hq0] at lp0 hz0
 clear hq0
 simp [F144, Fr.ofArgs]
 repeat' first
  | (refine brn_split (fun h => ?_) (fun h => ?_) <;> (try simp at h) <;> (try simp [h, e71, e77, hx0, hy0]))
  | refine (lp0 _ _ _ (by simp [RetF_bl, RetF_sq, RetF_fin]) (by simp [gc, Fr.keep, reach, frRefs, heapRefs, PV.refs, place, gcH, orefs, Obj.refs, PV.ren, Obj.ren, Heap.obj, Fr.ren, gh, List.idxOf?_cons])).trans ?_
 all_goals simp_all [ACommand.beq, ibq, sbq]
end Go.Sim
end
section
namespace Go.Sim
set_option maxRecDepth 10000
set_option maxHeartbeats 8000000
theorem lp99_1 (T : Tab) (hT : ∀ n F, tabC.get n = some F → T.F n = some F) (x y : ABank) (z : List (ARequest × ARequest)) (hx : x.Requests.l = z.map Prod.fst) (hy : y.Requests.l = z.map Prod.snd) (hz : ∀ p ∈ z, p.1.ok) (hn : z.length ≤ maxLen) {k : KC (PV × Bool)} {r : Option (PV × Bool)} {fr : Fr} {H : Heap} (hr : RetF 4 k r) (h0 : gc [2, 3, 6] 0 ⟨fr, H⟩ = ⟨[(6, .d (I 0)), (3, .p 0 0 0), (2, .p 1 0 0)], [some (.box (K1 42) (.d y.dv)), some (.box (K1 42) (.d x.dv))]⟩) :
  kC T.env 0 fr H (.h (.loop [2, 3, 6] L99_1, k)) = brn (z.all fun p => ARequest.beq p.1 p.2) (.h (k (.exit 2) [(89, .d (.b false)), (6, .d (I z.length)), (3, .p 0 0 0), (2, .p 1 0 0)] [some (.box (K1 42) (.d y.dv)), some (.box (K1 42) (.d x.dv))], r)) := by
 have hm := mxl
 rw [loop_rounds z (fun i _ => ⟨[(6, .d (I i)), (3, .p 0 0 0), (2, .p 1 0 0)], [some (.box (K1 42) (.d y.dv)), some (.box (K1 42) (.d x.dv))]⟩) (fun _ _ => True) (fun i _ p c => if ARequest.beq p.1 p.2 = true then c () else r) (fun _ => k (.exit 2) [(89, .d (.b false)), (6, .d (I z.length)), (3, .p 0 0 0), (2, .p 1 0 0)] [some (.box (K1 42) (.d y.dv)), some (.box (K1 42) (.d x.dv))]) ?_ ?_ h0 trivial]
 ·rw [rounds_all (fun p => ARequest.beq p.1 p.2) r]
  ·cases z.all fun p => ARequest.beq p.1 p.2 <;> rfl
  ·exact fun _ _ _ _ => rfl
 ·intro B _ _ _
  simp [L99_1, hx]
 ·intro B _ i _ hi _ c hc
  have h1 : (i : Int) < z.length := by omega
  have h3 := wr1 (i := i) (by omega)
  have he := val144 T hT z[i].1.Command z[i].2.Command (hz z[i] (List.getElem_mem hi)).2.2.2.2.2.2
  simp [L99_1, h1, hi, hx, hy, ↓kC_regD, ↓kDq_nil, ↓kDq_O, ↓kDq_E, ↓aftD_go, nfp_go, ↓d_mov, ↓d_alloc, ↓d_load, ↓d_store, ↓d_faddr, ↓d_iaddr, accD, writeS, touchS, footD, storeD, chg, roOf, runs, pairsD, disj, PV.refs, IOp.okD, Nat.testBit]
  repeat' (refine brn_split (fun h => ?_) (fun h => ?_) <;> (try simp at h) <;> (try simp [h, h3, he]))
  all_goals first
   | exact hr _ _ (by simp [Fr.get]) (by simp [ghosts, gh])
   | (simp_all [ARequest.beq, ibq, sbq]; done)
   | (refine (hc () _ _ trivial (by simp [gc, Fr.keep, reach, frRefs, heapRefs, PV.refs, place, gcH, orefs, Obj.refs, PV.ren, Obj.ren, Heap.obj, Fr.ren, gh, List.idxOf?_cons])).trans ?_; simp_all [ARequest.beq, ibq, sbq]; done)
   | (refine (hr _ _ (by simp [Fr.get]) (by simp [ghosts, gh])).trans ?_; simp_all [ARequest.beq, ibq, sbq]; done)
end Go.Sim
end
section
namespace Go.Sim
set_option maxRecDepth 10000
set_option maxHeartbeats 8000000
theorem val99 (T : Tab) (hT : ∀ n F, tabC.get n = some F → T.F n = some F) (x y : ABank) (hx : x.ok) : T.val 99 [x.dv, y.dv] = some (.d (.b (bqUs x y)), false) := by
 rw [val_k T (hT 99 F99 rfl) rfl]
 have d0 := val145 T (hT 145 F145 rfl) x.Trail.l y.Trail.l x.Trail.t y.Trail.t (hx.2.2.2.2.2.2.2.2.2.2.2.2.2.1).1
 by_cases hl0 : x.Users.l.length = y.Users.l.length
 rotate_left
 ·have hl0' : ((x.Users.l.length : Int) == (y.Users.l.length : Int)) = false := by simp; omega
  simp [F99, Fr.ofArgs, hl0', bne]
  repeat' (refine brn_split (fun h => ?_) (fun h => ?_) <;> (try simp at h) <;> (try simp [h, d0, hl0, hl0', bne]))
  all_goals simp_all [bqUs, ANight.beq, ibq, lsb_len _ _ hl0]
 by_cases hl1 : x.Requests.l.length = y.Requests.l.length
 rotate_left
 ·have hl1' : ((x.Requests.l.length : Int) == (y.Requests.l.length : Int)) = false := by simp; omega
  simp [F99, Fr.ofArgs, bne]
  repeat' (refine brn_split (fun h => ?_) (fun h => ?_) <;> (try simp at h) <;> (try simp [h, hl1', bne]))
  all_goals simp_all [bqUs, ANight.beq, ibq, lsb_len _ _ hl1]
 by_cases hl2 : x.Night.Avail.l.length = y.Night.Avail.l.length
 rotate_left
 ·have hl2' : ((x.Night.Avail.l.length : Int) == (y.Night.Avail.l.length : Int)) = false := by simp; omega
  simp [F99, Fr.ofArgs, bne]
  repeat' (refine brn_split (fun h => ?_) (fun h => ?_) <;> (try simp at h) <;> (try simp [h, hl2', bne]))
  all_goals simp_all [bqUs, ANight.beq, ibq, lsb_len _ _ hl2]
 by_cases hl3 : x.Night.Queue.l.length = y.Night.Queue.l.length
 rotate_left
 ·have hl3' : ((x.Night.Queue.l.length : Int) == (y.Night.Queue.l.length : Int)) = false := by simp; omega
  simp [F99, Fr.ofArgs, bne]
  repeat' (refine brn_split (fun h => ?_) (fun h => ?_) <;> (try simp at h) <;> (try simp [h, hl3', bne]))
  all_goals simp_all [bqUs, ANight.beq, ibq, lsb_len _ _ hl3]
 by_cases hl9 : x.Trail.l.length = y.Trail.l.length
 rotate_left
 ·have hl9' : ((x.Trail.l.length : Int) == (y.Trail.l.length : Int)) = false := by simp; omega
  simp [F99, Fr.ofArgs, bne]
  repeat' (refine brn_split (fun h => ?_) (fun h => ?_) <;> (try simp at h) <;> (try simp [h, hl9', bne]))
  all_goals simp_all [bqUs, ANight.beq, ibq, lsb_len _ _ hl9]
 obtain ⟨z0, hx0, hy0⟩ := zip_of x.Users.l y.Users.l hl0
 have hn0 : z0.length ≤ maxLen := by have := (hx.2.2.2.2.2.2.2.2.2.2.2.1).1; rw [hx0] at this; simpa using this
 have lp0 := fun k fr H => @lp99_0 T x y z0 hx0 hy0 hn0 k (some (.d (.b false), false)) fr H
 have hz0 : lsb AUser.beq x.Users.l y.Users.l = z0.all fun p => AUser.beq p.1 p.2 := by rw [hx0, hy0, lsb_zip]
 obtain ⟨q0, hq0⟩ : ∃ q, (z0.all fun p => AUser.beq p.1 p.2) = q := ⟨_, rfl⟩
 simp only [hq0] at lp0 hz0
 clear hq0
 obtain ⟨z1, hx1, hy1⟩ := zip_of x.Requests.l y.Requests.l hl1
 have hn1 : z1.length ≤ maxLen := by have := (hx.2.2.2.2.2.2.2.2.2.2.2.2.1).1; rw [hx1] at this; simpa using this
 have lp1 := fun k fr H => @lp99_1 T hT x y z1 hx1 hy1 (fun p hp => (hx.2.2.2.2.2.2.2.2.2.2.2.2.1).2 p.1 (by rw [hx1]; exact List.mem_map_of_mem hp)) hn1 k (some (.d (.b false), false)) fr H
 have hz1 : lsb ARequest.beq x.Requests.l y.Requests.l = z1.all fun p => ARequest.beq p.1 p.2 := by rw [hx1, hy1, lsb_zip]
 obtain ⟨q1, hq1⟩ : ∃ q, (z1.all fun p => ARequest.beq p.1 p.2) = q := ⟨_, rfl⟩
 simp only [hq1] at lp1 hz1
 clear hq1
 obtain ⟨z2, hx2, hy2⟩ := zip_of x.Night.Avail.l y.Night.Avail.l hl2
 have hn2 : z2.length ≤ maxLen := by have := (hx.2.2.2.2.2.2.2.2.2.2.2.2.2.2.2.2.1).1; rw [hx2] at this; simpa using this
 have lp2 := fun k fr H => @lp99_2 T x y z2 hx2 hy2 hn2 k (some (.d (.b false), false)) fr H
 have hz2 : lsb AAvail.beq x.Night.Avail.l y.Night.Avail.l = z2.all fun p => AAvail.beq p.1 p.2 := by rw [hx2, hy2, lsb_zip]
 obtain ⟨q2, hq2⟩ : ∃ q, (z2.all fun p => AAvail.beq p.1 p.2) = q := ⟨_, rfl⟩
 simp only [hq2] at lp2 hz2
 clear hq2
 obtain ⟨z3, hx3, hy3⟩ := zip_of x.Night.Queue.l y.Night.Queue.l hl3
 have hn3 : z3.length ≤ maxLen := by have := (hx.2.2.2.2.2.2.2.2.2.2.2.2.2.2.2.2.2).1; rw [hx3] at this; simpa using this
 have lp3 := fun k fr H => @lp99_3 T x y z3 hx3 hy3 hn3 k (some (.d (.b false), false)) fr H
 have hz3 : lsb AWait.beq x.Night.Queue.l y.Night.Queue.l = z3.all fun p => AWait.beq p.1 p.2 := by rw [hx3, hy3, lsb_zip]
 obtain ⟨q3, hq3⟩ : ∃ q, (z3.all fun p => AWait.beq p.1 p.2) = q := ⟨_, rfl⟩
 simp only [hq3] at lp3 hz3
 clear hq3
 simp [F99, Fr.ofArgs, hl9, hx0, hy0, hx1, hy1]
 repeat' first
  | (refine brn_split (fun h => ?_) (fun h => ?_) <;> (try simp at h) <;> (try simp [h, d0, hl9, hx0, hy0, hx1, hy1, hx2, hy2, hx3, hy3]))
  | refine (lp0 _ _ _ (by simp [RetF_bl, RetF_sq, RetF_fin]) (by simp [gc, Fr.keep, reach, frRefs, heapRefs, PV.refs, place, gcH, orefs, Obj.refs, PV.ren, Obj.ren, Heap.obj, Fr.ren, gh, List.idxOf?_cons])).trans ?_
  | refine (lp1 _ _ _ (by simp [RetF_bl, RetF_sq, RetF_fin]) (by simp [gc, Fr.keep, reach, frRefs, heapRefs, PV.refs, place, gcH, orefs, Obj.refs, PV.ren, Obj.ren, Heap.obj, Fr.ren, gh, List.idxOf?_cons])).trans ?_
  | refine (lp2 _ _ _ (by simp [RetF_bl, RetF_sq, RetF_fin]) (by simp [gc, Fr.keep, reach, frRefs, heapRefs, PV.refs, place, gcH, orefs, Obj.refs, PV.ren, Obj.ren, Heap.obj, Fr.ren, gh, List.idxOf?_cons])).trans ?_
  | refine (lp3 _ _ _ (by simp [RetF_bl, RetF_sq, RetF_fin]) (by simp [gc, Fr.keep, reach, frRefs, heapRefs, PV.refs, place, gcH, orefs, Obj.refs, PV.ren, Obj.ren, Heap.obj, Fr.ren, gh, List.idxOf?_cons])).trans ?_
 all_goals simp_all [bqUs, ANight.beq, ibq]
end Go.Sim
end
section
namespace Go.Sim
set_option maxRecDepth 10000
set_option maxHeartbeats 8000000
theorem val301 (T : Tab) (hT : ∀ n F, tabC.get n = some F → T.F n = some F) (x y : AInterest) (hx : x.ok) : T.val 301 [x.dv, y.dv] = some (.d (.b (AInterest.beq x y)), false) := by
 rw [val_k T (hT 301 F301 rfl) rfl]
 by_cases hl0 : x.Tiers.l.length = y.Tiers.l.length
 rotate_left
 ·have hl0' : ((x.Tiers.l.length : Int) == (y.Tiers.l.length : Int)) = false := by simp; omega
  simp [F301, Fr.ofArgs, hl0', bne]
  repeat' (refine brn_split (fun h => ?_) (fun h => ?_) <;> (try simp at h) <;> (try simp [h, hl0, hl0', bne]))
  all_goals simp_all [AInterest.beq, ibq, bbq, lsb_len _ _ hl0]
 obtain ⟨z0, hx0, hy0⟩ := zip_of x.Tiers.l y.Tiers.l hl0
 have hn0 : z0.length ≤ maxLen := by have := (hx.1).1; rw [hx0] at this; simpa using this
 have lp0 := fun k fr H => @lp301_0 T x y z0 hx0 hy0 hn0 k (some (.d (.b false), false)) fr H
 have hz0 : lsb ATier.beq x.Tiers.l y.Tiers.l = z0.all fun p => ATier.beq p.1 p.2 := by rw [hx0, hy0, lsb_zip]
 obtain ⟨q0, hq0⟩ : ∃ q, (z0.all fun p => ATier.beq p.1 p.2) = q := ⟨_, rfl⟩
 simp only [hq0] at lp0 hz0
 clear hq0
 simp [F301, Fr.ofArgs, hx0, hy0]
 repeat' first
  | (refine brn_split (fun h => ?_) (fun h => ?_) <;> (try simp at h) <;> (try simp [h, hx0, hy0]))
  | refine (lp0 _ _ _ (by simp [RetF_bl, RetF_sq, RetF_fin]) (by simp [gc, Fr.keep, reach, frRefs, heapRefs, PV.refs, place, gcH, orefs, Obj.refs, PV.ren, Obj.ren, Heap.obj, Fr.ren, gh, List.idxOf?_cons])).trans ?_
 all_goals simp_all [AInterest.beq, ibq, bbq]
end Go.Sim
end
section
namespace Go.Sim
set_option maxRecDepth 10000
set_option maxHeartbeats 4000000
theorem ax_of {e : DV} (h : XE e) : ∃ a : AExpr, e = a.dv ∧ a.ok := by
 cases h with
 | mk o n s a h1 h2 h3 h4 =>
  cases h4 with
  | mk es t h5 h6 => exact ⟨⟨o, n, s, ⟨es, t⟩⟩, rfl, h1, h2, h3, .mk es t h5 h6⟩
theorem axs_of {es : List DV} {t : Bool} (h : XL (.l (K1 4) es t)) : es.length ≤ maxLen ∧ ∃ l : List AExpr, es = l.map AExpr.dv ∧ ∀ a ∈ l, a.ok := by
 cases h with
 | mk _ _ h5 h6 => exact ⟨h5, list_of' fun e he => ax_of (h6 e he)⟩
theorem deq_dv (x y : AExpr) : deq x.dv y.dv = AExpr.beq x y := by
 simp only [AExpr.dv, AExpr.beq, deq, deqL, ibq, sbq, decide_true, Bool.true_and, Bool.and_true]
 have h : ∀ a b : Int, decide (a = b) = (a == b) := fun a b => by by_cases h : a = b <;> simp [h]
 rw [h, h, Bool.and_assoc, Bool.and_assoc]
theorem deqL_dv : ∀ l m : List AExpr, deqL (l.map AExpr.dv) (m.map AExpr.dv) = lsb AExpr.beq l m
 | [], [] => rfl
 | [], _ :: _ => rfl
 | _ :: _, [] => rfl
 | x :: l, y :: m => by simp [deqL, lsb, deq_dv, deqL_dv l m]
theorem arg_lt {x a : AExpr} (h : a.dv ∈ x.Args.l) : SizeOf.sizeOf a.dv < SizeOf.sizeOf x.dv := by
 have h1 := List.sizeOf_lt_of_mem h
 have h2 : SizeOf.sizeOf x.Args.l < SizeOf.sizeOf x.dv := by
  simp only [AExpr.dv, DV.a.sizeOf_spec, List.cons.sizeOf_spec, DV.l.sizeOf_spec]
  omega
 omega
theorem val296_n (T : Tab) (hT : ∀ n F, tabC.get n = some F → T.F n = some F) : ∀ (n : Nat) (x y : AExpr), SizeOf.sizeOf x.dv < n → x.ok → y.ok → T.val 296 [x.dv, y.dv] = some (.d (.b (AExpr.beq x y)), false)
 | 0, _, _, h, _, _ => absurd h (Nat.not_lt_zero _)
 | n + 1, x, y, hs, hx, hy => by
  obtain ⟨hlen, l, hl, hlo⟩ := axs_of hx.2.2.2
  obtain ⟨_, m, hm, hmo⟩ := axs_of hy.2.2.2
  have hll : l.length ≤ maxLen := by rw [hl] at hlen; simpa using hlen
  rw [val_k T (hT 296 F296 rfl) rfl]
  have d0 := fun H0 hH => ref364 T (hT 364 F364 rfl) 296 AExpr.beq H0 hH l m (fun a ha b hb => val296_n T hT n a b (by have := arg_lt (x := x) (a := a) (by rw [hl]; exact List.mem_map_of_mem ha); omega) (hlo a ha) (hmo b hb)) x.Args.t y.Args.t hll
  simp [F296, Fr.ofArgs]
  repeat' (refine brn_split (fun h => ?_) (fun h => ?_) <;> (try simp at h) <;> (try simp [h, d0, Cl_b2, hl, hm]))
  all_goals simp_all [AExpr.beq, ibq, sbq, deqL_dv]
theorem val296 (T : Tab) (hT : ∀ n F, tabC.get n = some F → T.F n = some F) (x y : AExpr) (hx : x.ok) (hy : y.ok) : T.val 296 [x.dv, y.dv] = some (.d (.b (AExpr.beq x y)), false) := val296_n T hT _ x y (Nat.lt_succ_self _) hx hy
end Go.Sim
end
section
namespace Go.Sim
set_option maxRecDepth 10000
set_option maxHeartbeats 4000000
theorem lp303_0 (T : Tab) (x y : AExpr) (z : List (AExpr × AExpr)) (hx : x.Args.l = (z.map Prod.fst).map AExpr.dv) (hy : y.Args.l = (z.map Prod.snd).map AExpr.dv) (hv : ∀ p ∈ z, T.val 303 [AExpr.dv p.1, AExpr.dv p.2] = some (.d (.b (AExpr.beq p.1 p.2)), false)) (hn : z.length ≤ maxLen) {k : KC (PV × Bool)} {r : Option (PV × Bool)} {fr : Fr} {H : Heap} (hr : RetF 4 k r) (h0 : gc [2, 3, 5] 0 ⟨fr, H⟩ = ⟨[(5, .d (I 0)), (3, .p 0 0 0), (2, .p 1 0 0)], [some (.box (K1 4) (.d y.dv)), some (.box (K1 4) (.d x.dv))]⟩) :
  kC T.env 0 fr H (.h (.loop [2, 3, 5] L303_0, k)) = brn (z.all fun p => AExpr.beq p.1 p.2) (.h (k (.exit 0) [(38, .d (.b false)), (5, .d (I z.length)), (3, .p 0 0 0), (2, .p 1 0 0)] [some (.box (K1 4) (.d y.dv)), some (.box (K1 4) (.d x.dv))], r)) := by
 have hm := mxl
 rw [loop_rounds z (fun i _ => ⟨[(5, .d (I i)), (3, .p 0 0 0), (2, .p 1 0 0)], [some (.box (K1 4) (.d y.dv)), some (.box (K1 4) (.d x.dv))]⟩) (fun _ _ => True) (fun i _ p c => if AExpr.beq p.1 p.2 = true then c () else r) (fun _ => k (.exit 0) [(38, .d (.b false)), (5, .d (I z.length)), (3, .p 0 0 0), (2, .p 1 0 0)] [some (.box (K1 4) (.d y.dv)), some (.box (K1 4) (.d x.dv))]) ?_ ?_ h0 trivial]
 ·rw [rounds_all (fun p => AExpr.beq p.1 p.2) r]
  ·cases z.all fun p => AExpr.beq p.1 p.2 <;> rfl
  ·exact fun _ _ _ _ => rfl
 ·intro B _ _ _
  simp [L303_0, hx]
 ·intro B _ i _ hi _ c hc
  have h1 : (i : Int) < z.length := by omega
  have h3 := wr1 (i := i) (by omega)
  have he := hv z[i] (List.getElem_mem hi)
  simp [L303_0, h1, hi, he, hx, hy]
  repeat' (refine brn_split (fun h => ?_) (fun h => ?_) <;> (try simp at h) <;> (try simp [h, h3]))
  all_goals first
   | exact hr _ _ (by simp [Fr.get]) (by simp [ghosts, gh])
   | exact hc () _ _ trivial (by simp [gc, Fr.keep, reach, frRefs, heapRefs, PV.refs, place, gcH, orefs, Obj.refs, PV.ren, Obj.ren, Heap.obj, Fr.ren, gh, List.idxOf?_cons])
theorem val303_n (T : Tab) (hT : ∀ n F, tabC.get n = some F → T.F n = some F) : ∀ (n : Nat) (x y : AExpr), SizeOf.sizeOf x.dv < n → x.ok → y.ok → T.val 303 [x.dv, y.dv] = some (.d (.b (AExpr.beq x y)), false)
 | 0, _, _, h, _, _ => absurd h (Nat.not_lt_zero _)
 | n + 1, x, y, hs, hx, hy => by
  obtain ⟨hlen, l, hl, hlo⟩ := axs_of hx.2.2.2
  obtain ⟨_, m, hm, hmo⟩ := axs_of hy.2.2.2
  rw [val_k T (hT 303 F303 rfl) rfl]
  by_cases hll : l.length = m.length
  rotate_left
  ·have hll' : ((l.length : Int) == (m.length : Int)) = false := by simp; omega
   simp [F303, Fr.ofArgs, bne]
   repeat' (refine brn_split (fun h => ?_) (fun h => ?_) <;> (try simp at h) <;> (try simp [h, hl, hm, hll', bne]))
   all_goals simp_all [AExpr.beq, ibq, sbq, deqL_dv, lsb_len _ _ hll]
  obtain ⟨z, rfl, rfl⟩ := zip_of l m hll
  have hn : z.length ≤ maxLen := by rw [hl] at hlen; simpa using hlen
  have lp := fun k fr H => @lp303_0 T x y z hl hm (fun p hp => val303_n T hT n p.1 p.2 (by have := arg_lt (x := x) (a := p.1) (by rw [hl]; exact List.mem_map_of_mem (List.mem_map_of_mem hp)); omega) (hlo _ (List.mem_map_of_mem hp)) (hmo _ (List.mem_map_of_mem hp))) hn k (some (.d (.b false), false)) fr H
  have hz : deqL x.Args.l y.Args.l = z.all fun p => AExpr.beq p.1 p.2 := by rw [hl, hm, deqL_dv, lsb_zip]
  obtain ⟨q, hq⟩ : ∃ q, (z.all fun p => AExpr.beq p.1 p.2) = q := ⟨_, rfl⟩
  simp only [hq] at lp hz
  clear hq
  simp [F303, Fr.ofArgs]
  repeat' first
   | (refine brn_split (fun h => ?_) (fun h => ?_) <;> (try simp at h) <;> (try simp [h, hl, hm]))
   | refine (lp _ _ _ (by simp [RetF_bl, RetF_sq, RetF_fin]) (by simp [gc, Fr.keep, reach, frRefs, heapRefs, PV.refs, place, gcH, orefs, Obj.refs, PV.ren, Obj.ren, Heap.obj, Fr.ren, gh, List.idxOf?_cons])).trans ?_
  all_goals simp_all [AExpr.beq, ibq, sbq]
theorem val303 (T : Tab) (hT : ∀ n F, tabC.get n = some F → T.F n = some F) (x y : AExpr) (hx : x.ok) (hy : y.ok) : T.val 303 [x.dv, y.dv] = some (.d (.b (AExpr.beq x y)), false) := val303_n T hT _ x y (Nat.lt_succ_self _) hx hy
end Go.Sim
end
section
namespace Go.Sim
set_option maxRecDepth 10000
set_option maxHeartbeats 8000000
theorem lp224_0 (T : Tab) (hT : ∀ n F, tabC.get n = some F → T.F n = some F) (x y : AProduct) (z : List (ARule × ARule)) (hx : x.Rules.l = z.map Prod.fst) (hy : y.Rules.l = z.map Prod.snd) (ho : ∀ p ∈ z, p.1.ok ∧ p.2.ok) (hn : z.length ≤ maxLen) {k : KC (PV × Bool)} {r : Option (PV × Bool)} {fr : Fr} {H : Heap} (hr : RetF 4 k r) (h0 : gc [2, 3, 5] 0 ⟨fr, H⟩ = ⟨[(5, .d (I 0)), (3, .p 0 0 0), (2, .p 1 0 0)], [some (.box (K1 19) (.d y.dv)), some (.box (K1 19) (.d x.dv))]⟩) :
  kC T.env 0 fr H (.h (.loop [2, 3, 5] L224_0, k)) = brn (z.all fun p => ARule.beq p.1 p.2) (.h (k (.exit 0) [(88, .d (.b false)), (5, .d (I z.length)), (3, .p 0 0 0), (2, .p 1 0 0)] [some (.box (K1 19) (.d y.dv)), some (.box (K1 19) (.d x.dv))], r)) := by
 have hm := mxl
 rw [loop_rounds z (fun i _ => ⟨[(5, .d (I i)), (3, .p 0 0 0), (2, .p 1 0 0)], [some (.box (K1 19) (.d y.dv)), some (.box (K1 19) (.d x.dv))]⟩) (fun _ _ => True) (fun i _ p c => if ARule.beq p.1 p.2 = true then c () else r) (fun _ => k (.exit 0) [(88, .d (.b false)), (5, .d (I z.length)), (3, .p 0 0 0), (2, .p 1 0 0)] [some (.box (K1 19) (.d y.dv)), some (.box (K1 19) (.d x.dv))]) ?_ ?_ h0 trivial]
 ·rw [rounds_all (fun p => ARule.beq p.1 p.2) r]
  ·cases z.all fun p => ARule.beq p.1 p.2 <;> rfl
  ·exact fun _ _ _ _ => rfl
 ·intro B _ _ _
  simp [L224_0, hx]
 ·intro B _ i _ hi _ c hc
  have h1 : (i : Int) < z.length := by omega
  have h3 := wr1 (i := i) (by omega)
  obtain ⟨o1, o2⟩ := ho z[i] (List.getElem_mem hi)
  have e0 := val303 T hT z[i].1.Amount z[i].2.Amount o1.2.2 o2.2.2
  simp [L224_0, h1, hi, hx, hy]
  repeat' (refine brn_split (fun h => ?_) (fun h => ?_) <;> (try simp at h) <;> (try simp [h, h1, hi, h3, e0, ARule.beq, ibq, sbq, hx, hy]))
  all_goals first
   | exact hr _ _ (by simp [Fr.get]) (by simp [ghosts, gh])
   | exact hc () _ _ trivial (by simp [gc, Fr.keep, reach, frRefs, heapRefs, PV.refs, place, gcH, orefs, Obj.refs, PV.ren, Obj.ren, Heap.obj, Fr.ren, gh, List.idxOf?_cons])
   | (simp_all [ARule.beq, ibq, sbq, bbq]; first | exact hr _ _ (by simp [Fr.get]) (by simp [ghosts, gh]) | exact hc () _ _ trivial (by simp [gc, Fr.keep, reach, frRefs, heapRefs, PV.refs, PV.refsL, place, gcH, orefs, Obj.refs, PV.ren, PV.renL, Obj.ren, Heap.obj, Fr.ren, gh, List.idxOf?_cons]))
end Go.Sim
end
section
namespace Go.Sim
set_option maxRecDepth 10000
set_option maxHeartbeats 8000000
theorem lp223_0 (T : Tab) (hT : ∀ n F, tabC.get n = some F → T.F n = some F) (z : List (ACalendar × ACalendar)) (s t : Bool) (ho : ∀ p ∈ z, p.1.ok ∧ p.2.ok) (hn : z.length ≤ maxLen) {k : KC (PV × Bool)} {r : Option (PV × Bool)} {fr : Fr} {H : Heap} (hr : RetF 4 k r) (h0 : gc [0, 1, 5] 0 ⟨fr, H⟩ = ⟨[(5, .d (I 0)), (1, .d (.l (K1 3) ((z.map Prod.snd).map ACalendar.dv) t)), (0, .d (.l (K1 3) ((z.map Prod.fst).map ACalendar.dv) s))], []⟩) :
  kC T.env 0 fr H (.h (.loop [0, 1, 5] L223_0, k)) = brn (z.all fun p => ACalendar.beq p.1 p.2) (.h (k (.exit 0) [(14, .d (.b false)), (5, .d (I z.length)), (1, .d (.l (K1 3) ((z.map Prod.snd).map ACalendar.dv) t)), (0, .d (.l (K1 3) ((z.map Prod.fst).map ACalendar.dv) s))] [], r)) := by
 have hm := mxl
 rw [loop_rounds z (fun i _ => ⟨[(5, .d (I i)), (1, .d (.l (K1 3) ((z.map Prod.snd).map ACalendar.dv) t)), (0, .d (.l (K1 3) ((z.map Prod.fst).map ACalendar.dv) s))], []⟩) (fun _ _ => True) (fun i _ p c => if ACalendar.beq p.1 p.2 = true then c () else r) (fun _ => k (.exit 0) [(14, .d (.b false)), (5, .d (I z.length)), (1, .d (.l (K1 3) ((z.map Prod.snd).map ACalendar.dv) t)), (0, .d (.l (K1 3) ((z.map Prod.fst).map ACalendar.dv) s))] []) ?_ ?_ h0 trivial]
 ·rw [rounds_all (fun p => ACalendar.beq p.1 p.2) r]
  ·cases z.all fun p => ACalendar.beq p.1 p.2 <;> rfl
  ·exact fun _ _ _ _ => rfl
 ·intro B _ _ _
  simp [L223_0]
 ·intro B _ i _ hi _ c hc
  have h1 : (i : Int) < z.length := by omega
  have h3 := wr1 (i := i) (by omega)
  obtain ⟨o1, o2⟩ := ho z[i] (List.getElem_mem hi)
  have e0 := val300 T (hT 300 F300 rfl) z[i].1.Weekend.l z[i].2.Weekend.l z[i].1.Weekend.t z[i].2.Weekend.t (o1.2.1).1
  have e1 := val300 T (hT 300 F300 rfl) z[i].1.Holidays.l z[i].2.Holidays.l z[i].1.Holidays.t z[i].2.Holidays.t (o1.2.2).1
  simp [L223_0, h1, hi]
  repeat' (refine brn_split (fun h => ?_) (fun h => ?_) <;> (try simp at h) <;> (try simp [h, h1, hi, h3, e0, e1, ACalendar.beq, sbq]))
  all_goals first
   | exact hr _ _ (by simp [Fr.get]) (by simp [ghosts, gh])
   | exact hc () _ _ trivial (by simp [gc, Fr.keep, reach, frRefs, heapRefs, PV.refs, gcH, PV.ren, Obj.ren, Heap.obj, Fr.ren, gh])
   | (simp_all [ACalendar.beq, ibq, sbq, bbq]; first | exact hr _ _ (by simp [Fr.get]) (by simp [ghosts, gh]) | exact hc () _ _ trivial (by simp [gc, Fr.keep, reach, frRefs, heapRefs, PV.refs, PV.refsL, place, gcH, orefs, Obj.refs, PV.ren, PV.renL, Obj.ren, Heap.obj, Fr.ren, gh, List.idxOf?_cons]))
end Go.Sim
end
section
namespace Go.Sim
set_option maxRecDepth 10000
set_option maxHeartbeats 8000000
theorem lp302_0 (T : Tab) (hT : ∀ n F, tabC.get n = some F → T.F n = some F) (z : List (AFee × AFee)) (s t : Bool) (ho : ∀ p ∈ z, p.1.ok ∧ p.2.ok) (hn : z.length ≤ maxLen) {k : KC (PV × Bool)} {r : Option (PV × Bool)} {fr : Fr} {H : Heap} (hr : RetF 4 k r) (h0 : gc [0, 1, 5] 0 ⟨fr, H⟩ = ⟨[(5, .d (I 0)), (1, .d (.l (K1 10) ((z.map Prod.snd).map AFee.dv) t)), (0, .d (.l (K1 10) ((z.map Prod.fst).map AFee.dv) s))], []⟩) :
  kC T.env 0 fr H (.h (.loop [0, 1, 5] L302_0, k)) = brn (z.all fun p => AFee.beq p.1 p.2) (.h (k (.exit 0) [(14, .d (.b false)), (5, .d (I z.length)), (1, .d (.l (K1 10) ((z.map Prod.snd).map AFee.dv) t)), (0, .d (.l (K1 10) ((z.map Prod.fst).map AFee.dv) s))] [], r)) := by
 have hm := mxl
 rw [loop_rounds z (fun i _ => ⟨[(5, .d (I i)), (1, .d (.l (K1 10) ((z.map Prod.snd).map AFee.dv) t)), (0, .d (.l (K1 10) ((z.map Prod.fst).map AFee.dv) s))], []⟩) (fun _ _ => True) (fun i _ p c => if AFee.beq p.1 p.2 = true then c () else r) (fun _ => k (.exit 0) [(14, .d (.b false)), (5, .d (I z.length)), (1, .d (.l (K1 10) ((z.map Prod.snd).map AFee.dv) t)), (0, .d (.l (K1 10) ((z.map Prod.fst).map AFee.dv) s))] []) ?_ ?_ h0 trivial]
 ·rw [rounds_all (fun p => AFee.beq p.1 p.2) r]
  ·cases z.all fun p => AFee.beq p.1 p.2 <;> rfl
  ·exact fun _ _ _ _ => rfl
 ·intro B _ _ _
  simp [L302_0]
 ·intro B _ i _ hi _ c hc
  have h1 : (i : Int) < z.length := by omega
  have h3 := wr1 (i := i) (by omega)
  obtain ⟨o1, o2⟩ := ho z[i] (List.getElem_mem hi)
  have e0 := val303 T hT z[i].1.When z[i].2.When o1.2.2.1 o2.2.2.1
  have e1 := val303 T hT z[i].1.Amount z[i].2.Amount o1.2.2.2 o2.2.2.2
  simp [L302_0, h1, hi]
  repeat' (refine brn_split (fun h => ?_) (fun h => ?_) <;> (try simp at h) <;> (try simp [h, h1, hi, h3, e0, e1, AFee.beq, ibq, sbq]))
  all_goals first
   | exact hr _ _ (by simp [Fr.get]) (by simp [ghosts, gh])
   | exact hc () _ _ trivial (by simp [gc, Fr.keep, reach, frRefs, heapRefs, PV.refs, gcH, PV.ren, Obj.ren, Heap.obj, Fr.ren, gh])
   | (simp_all [AFee.beq, ibq, sbq, bbq]; first | exact hr _ _ (by simp [Fr.get]) (by simp [ghosts, gh]) | exact hc () _ _ trivial (by simp [gc, Fr.keep, reach, frRefs, heapRefs, PV.refs, PV.refsL, place, gcH, orefs, Obj.refs, PV.ren, PV.renL, Obj.ren, Heap.obj, Fr.ren, gh, List.idxOf?_cons]))
end Go.Sim
end
section
namespace Go.Sim
set_option maxRecDepth 10000
set_option maxHeartbeats 8000000
theorem val223 (T : Tab) (hT : ∀ n F, tabC.get n = some F → T.F n = some F) (x y : List ACalendar) (s t : Bool) (ox : ∀ p ∈ x, p.ok) (oy : ∀ p ∈ y, p.ok) (hn : x.length ≤ maxLen) : T.val 223 [.l (K1 3) (x.map ACalendar.dv) s, .l (K1 3) (y.map ACalendar.dv) t] = some (.d (.b (lsb ACalendar.beq x y)), false) := by
 rw [val_k T (hT 223 F223 rfl) rfl]
 by_cases hl : x.length = y.length
 ·obtain ⟨z, rfl, rfl⟩ := zip_of x y hl
  rw [lsb_zip]
  have hz : z.length ≤ maxLen := by simpa using hn
  have lp := fun k fr H => @lp223_0 T hT z s t (fun p hp => ⟨ox _ (List.mem_map_of_mem hp), oy _ (List.mem_map_of_mem hp)⟩) hz k (some (.d (.b false), false)) fr H
  simp [F223, Fr.ofArgs]
  rw [lp]
  ·refine brn_split (fun h => ?_) (fun h => ?_)
   ·simp [h]
   ·rw [h]
  ·simp [RetF_bl, RetF_sq, RetF_fin]
  ·simp [gc, Fr.keep, reach, frRefs, heapRefs, PV.refs, gcH, PV.ren, Obj.ren, Heap.obj, Fr.ren, gh]
 ·rw [lsb_len _ _ hl]
  have hl' : ((x.length : Int) == (y.length : Int)) = false := by simp; omega
  simp [F223, Fr.ofArgs, hl', bne]
theorem val302 (T : Tab) (hT : ∀ n F, tabC.get n = some F → T.F n = some F) (x y : List AFee) (s t : Bool) (ox : ∀ p ∈ x, p.ok) (oy : ∀ p ∈ y, p.ok) (hn : x.length ≤ maxLen) : T.val 302 [.l (K1 10) (x.map AFee.dv) s, .l (K1 10) (y.map AFee.dv) t] = some (.d (.b (lsb AFee.beq x y)), false) := by
 rw [val_k T (hT 302 F302 rfl) rfl]
 by_cases hl : x.length = y.length
 ·obtain ⟨z, rfl, rfl⟩ := zip_of x y hl
  rw [lsb_zip]
  have hz : z.length ≤ maxLen := by simpa using hn
  have lp := fun k fr H => @lp302_0 T hT z s t (fun p hp => ⟨ox _ (List.mem_map_of_mem hp), oy _ (List.mem_map_of_mem hp)⟩) hz k (some (.d (.b false), false)) fr H
  simp [F302, Fr.ofArgs]
  rw [lp]
  ·refine brn_split (fun h => ?_) (fun h => ?_)
   ·simp [h]
   ·rw [h]
  ·simp [RetF_bl, RetF_sq, RetF_fin]
  ·simp [gc, Fr.keep, reach, frRefs, heapRefs, PV.refs, gcH, PV.ren, Obj.ren, Heap.obj, Fr.ren, gh]
 ·rw [lsb_len _ _ hl]
  have hl' : ((x.length : Int) == (y.length : Int)) = false := by simp; omega
  simp [F302, Fr.ofArgs, hl', bne]
end Go.Sim
end
section
namespace Go.Sim
set_option maxRecDepth 10000
set_option maxHeartbeats 8000000
theorem val224 (T : Tab) (hT : ∀ n F, tabC.get n = some F → T.F n = some F) (x y : AProduct) (hx : x.ok) (hy : y.ok) : T.val 224 [x.dv, y.dv] = some (.d (.b (AProduct.beq x y)), false) := by
 rw [val_k T (hT 224 F224 rfl) rfl]
 have d0 := val301 T hT x.Credit y.Credit hx.2.2.2.2.2.2.2.1
 have d1 := val301 T hT x.Debit y.Debit hx.2.2.2.2.2.2.2.2.1
 have d2 := val302 T hT x.Fees.l y.Fees.l x.Fees.t y.Fees.t (fun p hp => (hx.2.2.2.2.2.2.2.2.2.1).2 p hp) (fun p hp => (hy.2.2.2.2.2.2.2.2.2.1).2 p hp) (hx.2.2.2.2.2.2.2.2.2.1).1
 by_cases hl0 : x.Rules.l.length = y.Rules.l.length
 rotate_left
 ·have hl0' : ((x.Rules.l.length : Int) == (y.Rules.l.length : Int)) = false := by simp; omega
  simp [F224, Fr.ofArgs]
  repeat' (refine brn_split (fun h => ?_) (fun h => ?_) <;> (try simp at h) <;> (try simp [h, d0, d1, d2, hl0', bne]))
  all_goals simp_all [AProduct.beq, ibq, sbq, lsb_len _ _ hl0]
 obtain ⟨z0, hx0, hy0⟩ := zip_of x.Rules.l y.Rules.l hl0
 have hn0 : z0.length ≤ maxLen := by have := (hx.2.2.2.2.2.2.2.2.2.2).1; rw [hx0] at this; simpa using this
 have lp0 := fun k fr H => @lp224_0 T hT x y z0 hx0 hy0 (fun p hp => ⟨(hx.2.2.2.2.2.2.2.2.2.2).2 p.1 (by rw [hx0]; exact List.mem_map_of_mem hp), (hy.2.2.2.2.2.2.2.2.2.2).2 p.2 (by rw [hy0]; exact List.mem_map_of_mem hp)⟩) hn0 k (some (.d (.b false), false)) fr H
 have hz0 : lsb ARule.beq x.Rules.l y.Rules.l = z0.all fun p => ARule.beq p.1 p.2 := by rw [hx0, hy0, lsb_zip]
 obtain ⟨q0, hq0⟩ : ∃ q, (z0.all fun p => ARule.beq p.1 p.2) = q := ⟨_, rfl⟩
 simp only [hq0] at lp0 hz0
 clear hq0
 simp [F224, Fr.ofArgs]
 repeat' first
  | (refine brn_split (fun h => ?_) (fun h => ?_) <;> (try simp at h) <;> (try simp [h, d0, d1, d2, hx0, hy0]))
  | refine (lp0 _ _ _ (by simp [RetF_bl, RetF_sq, RetF_fin]) (by simp [gc, Fr.keep, reach, frRefs, heapRefs, PV.refs, place, gcH, orefs, Obj.refs, PV.ren, Obj.ren, Heap.obj, Fr.ren, gh, List.idxOf?_cons])).trans ?_
 all_goals simp_all [AProduct.beq, ibq, sbq]
end Go.Sim
end
section
namespace Go.Sim
set_option maxRecDepth 10000
set_option maxHeartbeats 8000000
theorem val139 (T : Tab) (hT : ∀ n F, tabC.get n = some F → T.F n = some F) (x y : ABooks) (hx : x.ok) (hy : y.ok) : T.val 139 [x.dv, y.dv] = some (.d (.b (bqBk x y)), false) := by
 rw [val_k T (hT 139 F139 rfl) rfl]
 have d0 := val223 T hT x.Calendars.l y.Calendars.l x.Calendars.t y.Calendars.t (fun p hp => (hx.2.1).2 p hp) (fun p hp => (hy.2.1).2 p hp) (hx.2.1).1
 have e38 : eqA [1, 1, 1, 1, 1, 1, 1, 1, 1, 1, 1, 1, 1, 1] (.d x.Plan.dv) (.d y.Plan.dv) = some (APlan.beq x.Plan y.Plan) := by
  simp [eqA, eqL, eqK, APlan.dv, APlan.beq, ibq, Bool.and_assoc]
 by_cases hl0 : x.Currencies.l.length = y.Currencies.l.length
 rotate_left
 ·have hl0' : ((x.Currencies.l.length : Int) == (y.Currencies.l.length : Int)) = false := by simp; omega
  simp [F139, Fr.ofArgs, hl0', bne]
  repeat' (refine brn_split (fun h => ?_) (fun h => ?_) <;> (try simp at h) <;> (try simp [h, d0, e38, hl0, hl0', bne]))
  all_goals simp_all [bqBk, lsb_len _ _ hl0]
 by_cases hl1 : x.Chart.l.length = y.Chart.l.length
 rotate_left
 ·have hl1' : ((x.Chart.l.length : Int) == (y.Chart.l.length : Int)) = false := by simp; omega
  simp [F139, Fr.ofArgs, bne]
  repeat' (refine brn_split (fun h => ?_) (fun h => ?_) <;> (try simp at h) <;> (try simp [h, hl1', bne]))
  all_goals simp_all [bqBk, lsb_len _ _ hl1]
 by_cases hl2 : x.Products.l.length = y.Products.l.length
 rotate_left
 ·have hl2' : ((x.Products.l.length : Int) == (y.Products.l.length : Int)) = false := by simp; omega
  simp [F139, Fr.ofArgs, bne]
  repeat' (refine brn_split (fun h => ?_) (fun h => ?_) <;> (try simp at h) <;> (try simp [h, hl2', bne]))
  all_goals simp_all [bqBk, lsb_len _ _ hl2]
 obtain ⟨z0, hx0, hy0⟩ := zip_of x.Currencies.l y.Currencies.l hl0
 have hn0 : z0.length ≤ maxLen := by have := (hx.1).1; rw [hx0] at this; simpa using this
 have lp0 := fun k fr H => @lp139_0 T x y z0 hx0 hy0 hn0 k (some (.d (.b false), false)) fr H
 have hz0 : lsb ACurrency.beq x.Currencies.l y.Currencies.l = z0.all fun p => ACurrency.beq p.1 p.2 := by rw [hx0, hy0, lsb_zip]
 obtain ⟨q0, hq0⟩ : ∃ q, (z0.all fun p => ACurrency.beq p.1 p.2) = q := ⟨_, rfl⟩
 simp only [hq0] at lp0 hz0
 clear hq0
 obtain ⟨z1, hx1, hy1⟩ := zip_of x.Chart.l y.Chart.l hl1
 have hn1 : z1.length ≤ maxLen := by have := (hx.2.2.1).1; rw [hx1] at this; simpa using this
 have lp1 := fun k fr H => @lp139_1 T x y z1 hx1 hy1 hn1 k (some (.d (.b false), false)) fr H
 have hz1 : lsb AGl.beq x.Chart.l y.Chart.l = z1.all fun p => AGl.beq p.1 p.2 := by rw [hx1, hy1, lsb_zip]
 obtain ⟨q1, hq1⟩ : ∃ q, (z1.all fun p => AGl.beq p.1 p.2) = q := ⟨_, rfl⟩
 simp only [hq1] at lp1 hz1
 clear hq1
 obtain ⟨z2, hx2, hy2⟩ := zip_of x.Products.l y.Products.l hl2
 have hn2 : z2.length ≤ maxLen := by have := (hx.2.2.2.2.1).1; rw [hx2] at this; simpa using this
 have lp2 := fun k fr H => @lp139_2 T x y z2 hx2 hy2 (fun p hp => val224 T hT p.1 p.2 ((hx.2.2.2.2.1).2 p.1 (by rw [hx2]; exact List.mem_map_of_mem hp)) ((hy.2.2.2.2.1).2 p.2 (by rw [hy2]; exact List.mem_map_of_mem hp))) hn2 k (some (.d (.b false), false)) fr H
 have hz2 : lsb AProduct.beq x.Products.l y.Products.l = z2.all fun p => AProduct.beq p.1 p.2 := by rw [hx2, hy2, lsb_zip]
 obtain ⟨q2, hq2⟩ : ∃ q, (z2.all fun p => AProduct.beq p.1 p.2) = q := ⟨_, rfl⟩
 simp only [hq2] at lp2 hz2
 clear hq2
 simp [F139, Fr.ofArgs, e38, hx0, hy0, hx1, hy1, hx2, hy2]
 repeat' first
  | (refine brn_split (fun h => ?_) (fun h => ?_) <;> (try simp at h) <;> (try simp [h, d0, hx0, hy0, hx1, hy1, hx2, hy2]))
  | refine (lp0 _ _ _ (by simp [RetF_bl, RetF_sq, RetF_fin]) (by simp [gc, Fr.keep, reach, frRefs, heapRefs, PV.refs, place, gcH, orefs, Obj.refs, PV.ren, Obj.ren, Heap.obj, Fr.ren, gh, List.idxOf?_cons])).trans ?_
  | refine (lp1 _ _ _ (by simp [RetF_bl, RetF_sq, RetF_fin]) (by simp [gc, Fr.keep, reach, frRefs, heapRefs, PV.refs, place, gcH, orefs, Obj.refs, PV.ren, Obj.ren, Heap.obj, Fr.ren, gh, List.idxOf?_cons])).trans ?_
  | refine (lp2 _ _ _ (by simp [RetF_bl, RetF_sq, RetF_fin]) (by simp [gc, Fr.keep, reach, frRefs, heapRefs, PV.refs, place, gcH, orefs, Obj.refs, PV.ren, Obj.ren, Heap.obj, Fr.ren, gh, List.idxOf?_cons])).trans ?_
 all_goals simp_all [bqBk]
end Go.Sim
end
section
namespace Go.Sim
set_option maxRecDepth 10000
set_option maxHeartbeats 8000000
theorem val218 (T : Tab) (hT : ∀ n F, tabC.get n = some F → T.F n = some F) (x y : AEntry) (hx : x.ok) : T.val 218 [x.dv, y.dv] = some (.d (.b (AEntry.beq x y)), false) := by
 rw [val_k T (hT 218 F218 rfl) rfl]
 have d0 := val299 T (hT 299 F299 rfl) x.Legs.l y.Legs.l x.Legs.t y.Legs.t (hx.2.2.2.2.2.2.2.2.1).1
 simp [F218, Fr.ofArgs]
 repeat' (refine brn_split (fun h => ?_) (fun h => ?_) <;> (try simp at h) <;> (try simp [h, d0]))
 all_goals simp_all [AEntry.beq, ibq, sbq]
theorem val9 (T : Tab) (hT : ∀ n F, tabC.get n = some F → T.F n = some F) (x y : AEntry) (hx : x.ok) : T.val 9 [x.dv, y.dv] = some (.d (.b (AEntry.beq x y)), false) := by
 rw [val_k T (hT 9 F9 rfl) rfl]
 have d0 := val14 T (hT 14 F14 rfl) x.Legs.l y.Legs.l x.Legs.t y.Legs.t (hx.2.2.2.2.2.2.2.2.1).1
 simp [F9, Fr.ofArgs]
 repeat' (refine brn_split (fun h => ?_) (fun h => ?_) <;> (try simp at h) <;> (try simp [h, d0]))
 all_goals simp_all [AEntry.beq, ibq, sbq]
end Go.Sim
end
section
namespace Go.Sim
set_option maxRecDepth 10000
set_option maxHeartbeats 8000000
theorem val97 (T : Tab) (hT : ∀ n F, tabC.get n = some F → T.F n = some F) (x y : ABooks) (hx : x.ok) (hy : y.ok) : T.val 97 [x.dv, y.dv] = some (.d (.b (ABooks.beq x y)), false) := by
 rw [val_k T (hT 97 F97 rfl) rfl]
 have d0 := val139 T hT x y hx hy
 have d1 := val140 T (hT 140 F140 rfl) x.Accounts.l y.Accounts.l x.Accounts.t y.Accounts.t (hx.2.2.2.2.2.1).1
 by_cases hl0 : x.Journal.l.length = y.Journal.l.length
 rotate_left
 ·have hl0' : ((x.Journal.l.length : Int) == (y.Journal.l.length : Int)) = false := by simp; omega
  simp [F97, Fr.ofArgs, d0]
  repeat' (refine brn_split (fun h => ?_) (fun h => ?_) <;> (try simp at h) <;> (try simp [h, d1, hl0', bne]))
  all_goals simp_all [ABooks.beq, bqBk, lsb_len _ _ hl0]
 by_cases hl1 : x.Holds.l.length = y.Holds.l.length
 rotate_left
 ·have hl1' : ((x.Holds.l.length : Int) == (y.Holds.l.length : Int)) = false := by simp; omega
  simp [F97, Fr.ofArgs, d0]
  repeat' (refine brn_split (fun h => ?_) (fun h => ?_) <;> (try simp at h) <;> (try simp [h, d1, hl1', bne]))
  all_goals simp_all [ABooks.beq, bqBk, lsb_len _ _ hl1]
 by_cases hl2 : x.Blocks.l.length = y.Blocks.l.length
 rotate_left
 ·have hl2' : ((x.Blocks.l.length : Int) == (y.Blocks.l.length : Int)) = false := by simp; omega
  simp [F97, Fr.ofArgs, d0]
  repeat' (refine brn_split (fun h => ?_) (fun h => ?_) <;> (try simp at h) <;> (try simp [h, d1, hl2', bne]))
  all_goals simp_all [ABooks.beq, bqBk, lsb_len _ _ hl2]
 obtain ⟨z0, hx0, hy0⟩ := zip_of x.Journal.l y.Journal.l hl0
 have hn0 : z0.length ≤ maxLen := by have := (hx.2.2.2.2.2.2.1).1; rw [hx0] at this; simpa using this
 have lp0 := fun k fr H => @lp97_0 T x y z0 hx0 hy0 (fun p hp => val9 T hT p.1 p.2 ((hx.2.2.2.2.2.2.1).2 p.1 (by rw [hx0]; exact List.mem_map_of_mem hp))) hn0 k (some (.d (.b false), false)) fr H
 have hz0 : lsb AEntry.beq x.Journal.l y.Journal.l = z0.all fun p => AEntry.beq p.1 p.2 := by rw [hx0, hy0, lsb_zip]
 obtain ⟨q0, hq0⟩ : ∃ q, (z0.all fun p => AEntry.beq p.1 p.2) = q := ⟨_, rfl⟩
 simp only [hq0] at lp0 hz0
 clear hq0
 obtain ⟨z1, hx1, hy1⟩ := zip_of x.Holds.l y.Holds.l hl1
 have hn1 : z1.length ≤ maxLen := by have := (hx.2.2.2.2.2.2.2.1).1; rw [hx1] at this; simpa using this
 have lp1 := fun k fr H => @lp97_1 T x y z1 hx1 hy1 hn1 k (some (.d (.b false), false)) fr H
 have hz1 : lsb AHold.beq x.Holds.l y.Holds.l = z1.all fun p => AHold.beq p.1 p.2 := by rw [hx1, hy1, lsb_zip]
 obtain ⟨q1, hq1⟩ : ∃ q, (z1.all fun p => AHold.beq p.1 p.2) = q := ⟨_, rfl⟩
 simp only [hq1] at lp1 hz1
 clear hq1
 obtain ⟨z2, hx2, hy2⟩ := zip_of x.Blocks.l y.Blocks.l hl2
 have hn2 : z2.length ≤ maxLen := by have := (hx.2.2.2.2.2.2.2.2).1; rw [hx2] at this; simpa using this
 have lp2 := fun k fr H => @lp97_2 T x y z2 hx2 hy2 hn2 k (some (.d (.b false), false)) fr H
 have hz2 : lsb ABlock.beq x.Blocks.l y.Blocks.l = z2.all fun p => ABlock.beq p.1 p.2 := by rw [hx2, hy2, lsb_zip]
 obtain ⟨q2, hq2⟩ : ∃ q, (z2.all fun p => ABlock.beq p.1 p.2) = q := ⟨_, rfl⟩
 simp only [hq2] at lp2 hz2
 clear hq2
 simp [F97, Fr.ofArgs, d0]
 repeat' first
  | (refine brn_split (fun h => ?_) (fun h => ?_) <;> (try simp at h) <;> (try simp [h, d1, hx0, hy0, hx1, hy1, hx2, hy2]))
  | refine (lp0 _ _ _ (by simp [RetF_bl, RetF_sq, RetF_fin]) (by simp [gc, Fr.keep, reach, frRefs, heapRefs, PV.refs, place, gcH, orefs, Obj.refs, PV.ren, Obj.ren, Heap.obj, Fr.ren, gh, List.idxOf?_cons])).trans ?_
  | refine (lp1 _ _ _ (by simp [RetF_bl, RetF_sq, RetF_fin]) (by simp [gc, Fr.keep, reach, frRefs, heapRefs, PV.refs, place, gcH, orefs, Obj.refs, PV.ren, Obj.ren, Heap.obj, Fr.ren, gh, List.idxOf?_cons])).trans ?_
  | refine (lp2 _ _ _ (by simp [RetF_bl, RetF_sq, RetF_fin]) (by simp [gc, Fr.keep, reach, frRefs, heapRefs, PV.refs, place, gcH, orefs, Obj.refs, PV.ren, Obj.ren, Heap.obj, Fr.ren, gh, List.idxOf?_cons])).trans ?_
 all_goals simp_all [ABooks.beq, bqBk]
end Go.Sim
end
section
namespace Go.Sim
set_option maxRecDepth 10000
set_option maxHeartbeats 8000000
theorem ABank_split (x y : ABank) : ABank.beq x y = (ibq x.Day y.Day && (ibq x.NextId y.NextId && (sbq x.Home y.Home && (ARun.beq x.Run y.Run && (ABooks.beq x.Books y.Books && (bqPe x y && bqUs x y)))))) := by
 simp only [ABank.beq, bqPe, bqUs, bqOr]
 ac_rfl
theorem val82 (T : Tab) (hT : ∀ n F, tabC.get n = some F → T.F n = some F) (x y : ABank) (hx : x.ok) (hy : y.ok) : T.val 82 [x.dv, y.dv] = some (.d (.b (ABank.beq x y)), false) := by
 rw [val_k T (hT 82 F82 rfl) rfl]
 have d0 := val97 T hT x.Books y.Books hx.2.2.2.1 hy.2.2.2.1
 have d1 := val98 T hT x y hx
 have d2 := val99 T hT x y hx
 have e29 : eqA [2, 1, 1, 1] (.d x.Run.dv) (.d y.Run.dv) = some (ARun.beq x.Run y.Run) := by
  simp [eqA, eqL, eqK, ARun.dv, ARun.beq, ibq, bbq, Bool.and_assoc]
 simp [F82, Fr.ofArgs]
 repeat' (refine brn_split (fun h => ?_) (fun h => ?_) <;> (try simp at h) <;> (try simp [h, d0, d1, d2, e29]))
 all_goals simp_all [ABank_split, ibq, sbq]
end Go.Sim
end
section
namespace Go.Sim
set_option maxRecDepth 10000
set_option maxHeartbeats 8000000
theorem val295 (T : Tab) (hT : ∀ n F, tabC.get n = some F → T.F n = some F) (x y : AFee) (hx : x.ok) (hy : y.ok) : T.val 295 [x.dv, y.dv] = some (.d (.b (AFee.beq x y)), false) := by
 rw [val_k T (hT 295 F295 rfl) rfl]
 have d0 := val296 T hT x.When y.When hx.2.2.1 hy.2.2.1
 have d1 := val296 T hT x.Amount y.Amount hx.2.2.2 hy.2.2.2
 simp [F295, Fr.ofArgs]
 repeat' (refine brn_split (fun h => ?_) (fun h => ?_) <;> (try simp at h) <;> (try simp [h, d0, d1]))
 all_goals simp_all [AFee.beq, ibq, sbq]
theorem val298 (T : Tab) (hT : ∀ n F, tabC.get n = some F → T.F n = some F) (x y : ARule) (hx : x.ok) (hy : y.ok) : T.val 298 [x.dv, y.dv] = some (.d (.b (ARule.beq x y)), false) := by
 rw [val_k T (hT 298 F298 rfl) rfl]
 have d0 := val296 T hT x.Amount y.Amount hx.2.2 hy.2.2
 simp [F298, Fr.ofArgs]
 repeat' (refine brn_split (fun h => ?_) (fun h => ?_) <;> (try simp at h) <;> (try simp [h, d0]))
 all_goals simp_all [ARule.beq, ibq, sbq]
end Go.Sim
end
section
namespace Go.Sim
set_option maxRecDepth 10000
set_option maxHeartbeats 8000000
theorem lp293_0 (T : Tab) (x y : AInterest) (z : List (ATier × ATier)) (hx : x.Tiers.l = z.map Prod.fst) (hy : y.Tiers.l = z.map Prod.snd) (hn : z.length ≤ maxLen) {k : KC (PV × Bool)} {r : Option (PV × Bool)} {fr : Fr} {H : Heap} (hr : RetF 4 k r) (h0 : gc [2, 3, 15, 16] 0 ⟨fr, H⟩ = ⟨[(16, .d (I 0)), (15, .d (I z.length)), (3, .p 0 0 0), (2, .p 1 0 0)], [some (.box (K1 5) (.d y.dv)), some (.box (K1 5) (.d x.dv))]⟩) :
  kC T.env 0 fr H (.h (.loop [2, 3, 15, 16] L293_0, k)) = brn (z.all fun p => ATier.beq p.1 p.2) (.h (k (.exit 0) [(17, .d (.b false)), (16, .d (I z.length)), (15, .d (I z.length)), (3, .p 0 0 0), (2, .p 1 0 0)] [some (.box (K1 5) (.d y.dv)), some (.box (K1 5) (.d x.dv))], r)) := by
 have hm := mxl
 rw [loop_rounds z (fun i _ => ⟨[(16, .d (I i)), (15, .d (I z.length)), (3, .p 0 0 0), (2, .p 1 0 0)], [some (.box (K1 5) (.d y.dv)), some (.box (K1 5) (.d x.dv))]⟩) (fun _ _ => True) (fun i _ p c => if ATier.beq p.1 p.2 = true then c () else r) (fun _ => k (.exit 0) [(17, .d (.b false)), (16, .d (I z.length)), (15, .d (I z.length)), (3, .p 0 0 0), (2, .p 1 0 0)] [some (.box (K1 5) (.d y.dv)), some (.box (K1 5) (.d x.dv))]) ?_ ?_ h0 trivial]
 ·rw [rounds_all (fun p => ATier.beq p.1 p.2) r]
  ·cases z.all fun p => ATier.beq p.1 p.2 <;> rfl
  ·exact fun _ _ _ _ => rfl
 ·intro B _ _ _
  simp [L293_0]
 ·intro B _ i _ hi _ c hc
  have h1 : (i : Int) < z.length := by omega
  have h3 := wr1 (i := i) (by omega)
  have he : eqA [1, 1] (.d (ATier.dv z[i].1)) (.d (ATier.dv z[i].2)) = some (ATier.beq z[i].1 z[i].2) := by
   simp [eqA, eqL, eqK, ATier.dv, ATier.beq, ibq]
  simp [L293_0, h1, hi, he, hx, hy]
  repeat' (refine brn_split (fun h => ?_) (fun h => ?_) <;> (try simp at h) <;> (try simp [h, h3]))
  all_goals first
   | exact hr _ _ (by simp [Fr.get]) (by simp [ghosts, gh])
   | exact hc () _ _ trivial (by simp [gc, Fr.keep, reach, frRefs, heapRefs, PV.refs, place, gcH, orefs, Obj.refs, PV.ren, Obj.ren, Heap.obj, Fr.ren, gh, List.idxOf?_cons])
   | (simp_all [ATier.beq, ibq, sbq, bbq]; first | exact hr _ _ (by simp [Fr.get]) (by simp [ghosts, gh]) | exact hc () _ _ trivial (by simp [gc, Fr.keep, reach, frRefs, heapRefs, PV.refs, PV.refsL, place, gcH, orefs, Obj.refs, PV.ren, PV.renL, Obj.ren, Heap.obj, Fr.ren, gh, List.idxOf?_cons]))
theorem val293 (T : Tab) (hT : ∀ n F, tabC.get n = some F → T.F n = some F) (x y : AInterest) (hx : x.ok) : T.val 293 [x.dv, y.dv] = some (.d (.b (AInterest.beq x y)), false) := by
 rw [val_k T (hT 293 F293 rfl) rfl]
 by_cases hl : x.Tiers.l.length = y.Tiers.l.length
 ·obtain ⟨z, hxz, hyz⟩ := zip_of x.Tiers.l y.Tiers.l hl
  have hn : z.length ≤ maxLen := by have := (hx.1).1; rw [hxz] at this; simpa using this
  have lp := fun k fr H => @lp293_0 T x y z hxz hyz hn k (some (.d (.b false), false)) fr H
  have hz : lsb ATier.beq x.Tiers.l y.Tiers.l = z.all fun p => ATier.beq p.1 p.2 := by rw [hxz, hyz, lsb_zip]
  obtain ⟨q, hq⟩ : ∃ q, (z.all fun p => ATier.beq p.1 p.2) = q := ⟨_, rfl⟩
  simp only [hq] at lp hz
  clear hq
  simp [F293, Fr.ofArgs, hxz, hyz]
  repeat' first
   | (refine brn_split (fun h => ?_) (fun h => ?_) <;> (try simp at h) <;> (try simp [h]))
   | refine (lp _ _ _ (by simp [RetF_bl, RetF_sq, RetF_fin]) (by simp [gc, Fr.keep, reach, frRefs, heapRefs, PV.refs, place, gcH, orefs, Obj.refs, PV.ren, Obj.ren, Heap.obj, Fr.ren, gh, List.idxOf?_cons])).trans ?_
  all_goals simp_all [AInterest.beq, ibq, bbq]
 ·have hl' : ((x.Tiers.l.length : Int) == (y.Tiers.l.length : Int)) = false := by simp; omega
  simp [F293, Fr.ofArgs, hl', bne]
  simp [AInterest.beq, lsb_len _ _ hl]
end Go.Sim
end
section
namespace Go.Sim
set_option maxRecDepth 10000
set_option maxHeartbeats 8000000
theorem val216 (T : Tab) (hT : ∀ n F, tabC.get n = some F → T.F n = some F) (x y : AProduct) (hx : x.ok) (hy : y.ok) : T.val 216 [x.dv, y.dv] = some (.d (.b (AProduct.beq x y)), false) := by
 rw [val_k T (hT 216 F216 rfl) rfl]
 have d0 := val293 T hT x.Credit y.Credit hx.2.2.2.2.2.2.2.1
 have d1 := val293 T hT x.Debit y.Debit hx.2.2.2.2.2.2.2.2.1
 have d2 := fun H0 hH => ref294 T (hT 294 F294 rfl) 295 AFee.beq H0 hH x.Fees.l y.Fees.l (fun p hp q hq => val295 T hT p q ((hx.2.2.2.2.2.2.2.2.2.1).2 p hp) ((hy.2.2.2.2.2.2.2.2.2.1).2 q hq)) x.Fees.t y.Fees.t (hx.2.2.2.2.2.2.2.2.2.1).1
 have d3 := fun H0 hH => ref297 T (hT 297 F297 rfl) 298 ARule.beq H0 hH x.Rules.l y.Rules.l (fun p hp q hq => val298 T hT p q ((hx.2.2.2.2.2.2.2.2.2.2).2 p hp) ((hy.2.2.2.2.2.2.2.2.2.2).2 q hq)) x.Rules.t y.Rules.t (hx.2.2.2.2.2.2.2.2.2.2).1
 simp [F216, Fr.ofArgs]
 repeat' (refine brn_split (fun h => ?_) (fun h => ?_) <;> (try simp at h) <;> (try simp [h, d0, d1, d2, d3, Cl_b2]))
 all_goals simp_all [AProduct.beq, ibq, sbq]
end Go.Sim
end
section
namespace Go.Sim
set_option maxRecDepth 10000
set_option maxHeartbeats 8000000
theorem val214 (T : Tab) (hT : ∀ n F, tabC.get n = some F → T.F n = some F) (x y : ACalendar) (hx : x.ok) : T.val 214 [x.dv, y.dv] = some (.d (.b (ACalendar.beq x y)), false) := by
 rw [val_k T (hT 214 F214 rfl) rfl]
 have d0 := val292 T (hT 292 F292 rfl) x.Weekend.l y.Weekend.l x.Weekend.t y.Weekend.t (hx.2.1).1
 have d1 := val292 T (hT 292 F292 rfl) x.Holidays.l y.Holidays.l x.Holidays.t y.Holidays.t (hx.2.2).1
 simp [F214, Fr.ofArgs]
 repeat' (refine brn_split (fun h => ?_) (fun h => ?_) <;> (try simp at h) <;> (try simp [h, d0, d1]))
 all_goals simp_all [ACalendar.beq, sbq]
theorem val222 (T : Tab) (hT : ∀ n F, tabC.get n = some F → T.F n = some F) (x y : ACommand) (hx : x.ok) : T.val 222 [x.dv, y.dv] = some (.d (.b (ACommand.beq x y)), false) := by
 rw [val_k T (hT 222 F222 rfl) rfl]
 have d0 := val292 T (hT 292 F292 rfl) x.Crashes.l y.Crashes.l x.Crashes.t y.Crashes.t (hx.2.2.2.2.2.2.2.2.2.2.2).1
 have e73 : eqA [1, 1, 1, 1, 1, 1, 1, 1, 1, 1, 3, 3] (.d x.Terms.dv) (.d y.Terms.dv) = some (ATerms.beq x.Terms y.Terms) := by
  simp [eqA, eqL, eqK, ATerms.dv, ATerms.beq, ibq, sbq, Bool.and_assoc]
 have e80 : eqA [3, 1, 1, 1, 1, 1, 3] (.d x.Message.dv) (.d y.Message.dv) = some (AMessage.beq x.Message y.Message) := by
  simp [eqA, eqL, eqK, AMessage.dv, AMessage.beq, ibq, sbq, Bool.and_assoc]
 simp [F222, Fr.ofArgs]
 repeat' (refine brn_split (fun h => ?_) (fun h => ?_) <;> (try simp at h) <;> (try simp [h, d0, e73, e80]))
 all_goals simp_all [ACommand.beq, ibq, sbq]
theorem val135 (T : Tab) (hT : ∀ n F, tabC.get n = some F → T.F n = some F) (x y : ARequest) (hx : x.ok) : T.val 135 [x.dv, y.dv] = some (.d (.b (ARequest.beq x y)), false) := by
 rw [val_k T (hT 135 F135 rfl) rfl]
 have d0 := val222 T hT x.Command y.Command hx.2.2.2.2.2.2
 simp [F135, Fr.ofArgs]
 repeat' (refine brn_split (fun h => ?_) (fun h => ?_) <;> (try simp at h) <;> (try simp [h, d0]))
 all_goals simp_all [ARequest.beq, ibq, sbq]
end Go.Sim
end
section
namespace Go.Sim
set_option maxRecDepth 10000
set_option maxHeartbeats 8000000
theorem val121 (T : Tab) (hT : ∀ n F, tabC.get n = some F → T.F n = some F) (x y : ABooks) (hx : x.ok) (hy : y.ok) : T.val 121 [x.dv, y.dv] = some (.d (.b (ABooks.beq x y)), false) := by
 rw [val_k T (hT 121 F121 rfl) rfl]
 have d0 := val208 T (hT 208 F208 rfl) x.Currencies.l y.Currencies.l x.Currencies.t y.Currencies.t (hx.1).1
 have d1 := val209 T (hT 209 F209 rfl) x.Chart.l y.Chart.l x.Chart.t y.Chart.t (hx.2.2.1).1
 have d2 := val210 T (hT 210 F210 rfl) x.Accounts.l y.Accounts.l x.Accounts.t y.Accounts.t (hx.2.2.2.2.2.1).1
 have d3 := val211 T (hT 211 F211 rfl) x.Holds.l y.Holds.l x.Holds.t y.Holds.t (hx.2.2.2.2.2.2.2.1).1
 have d4 := val212 T (hT 212 F212 rfl) x.Blocks.l y.Blocks.l x.Blocks.t y.Blocks.t (hx.2.2.2.2.2.2.2.2).1
 have d5 := fun H0 hH => ref213 T (hT 213 F213 rfl) 214 ACalendar.beq H0 hH x.Calendars.l y.Calendars.l (fun p hp q hq => val214 T hT p q ((hx.2.1).2 p hp)) x.Calendars.t y.Calendars.t (hx.2.1).1
 have d6 := fun H0 hH => ref215 T (hT 215 F215 rfl) 216 AProduct.beq H0 hH x.Products.l y.Products.l (fun p hp q hq => val216 T hT p q ((hx.2.2.2.2.1).2 p hp) ((hy.2.2.2.2.1).2 q hq)) x.Products.t y.Products.t (hx.2.2.2.2.1).1
 have d7 := fun H0 hH => ref217 T (hT 217 F217 rfl) 218 AEntry.beq H0 hH x.Journal.l y.Journal.l (fun p hp q hq => val218 T hT p q ((hx.2.2.2.2.2.2.1).2 p hp)) x.Journal.t y.Journal.t (hx.2.2.2.2.2.2.1).1
 have e23 : eqA [1, 1, 1, 1, 1, 1, 1, 1, 1, 1, 1, 1, 1, 1] (.d x.Plan.dv) (.d y.Plan.dv) = some (APlan.beq x.Plan y.Plan) := by
  simp [eqA, eqL, eqK, APlan.dv, APlan.beq, ibq, Bool.and_assoc]
 simp [F121, Fr.ofArgs, d0]
 repeat' (refine brn_split (fun h => ?_) (fun h => ?_) <;> (try simp at h) <;> (try simp [h, d1, d2, d3, d4, d5, d6, d7, e23, Cl_b2]))
 all_goals simp_all [ABooks.beq]
end Go.Sim
end
section
namespace Go.Sim
set_option maxRecDepth 10000
set_option maxHeartbeats 8000000
theorem val124 (T : Tab) (hT : ∀ n F, tabC.get n = some F → T.F n = some F) (x y : ALoan) (hx : x.ok) : T.val 124 [x.dv, y.dv] = some (.d (.b (ALoan.beq x y)), false) := by
 rw [val_k T (hT 124 F124 rfl) rfl]
 have d0 := val219 T (hT 219 F219 rfl) x.Dues.l y.Dues.l x.Dues.t y.Dues.t (hx.2.2.2.2.2.2.2.2.2.2.2.2.1).1
 have d1 := val220 T (hT 220 F220 rfl) x.Changes.l y.Changes.l x.Changes.t y.Changes.t (hx.2.2.2.2.2.2.2.2.2.2.2.2.2).1
 have e103 : eqA [1, 1, 1, 1, 1, 1, 1, 1, 1, 1, 3, 3] (.d x.Terms.dv) (.d y.Terms.dv) = some (ATerms.beq x.Terms y.Terms) := by
  simp [eqA, eqL, eqK, ATerms.dv, ATerms.beq, ibq, sbq, Bool.and_assoc]
 simp [F124, Fr.ofArgs, d0]
 repeat' (refine brn_split (fun h => ?_) (fun h => ?_) <;> (try simp at h) <;> (try simp [h, d1, e103]))
 all_goals simp_all [ALoan.beq, ibq]
theorem val130 (T : Tab) (hT : ∀ n F, tabC.get n = some F → T.F n = some F) (x y : AStatement) (hx : x.ok) : T.val 130 [x.dv, y.dv] = some (.d (.b (AStatement.beq x y)), false) := by
 rw [val_k T (hT 130 F130 rfl) rfl]
 have d0 := val221 T (hT 221 F221 rfl) x.Lines.l y.Lines.l x.Lines.t y.Lines.t (hx.2.2.2.2.2.2).1
 simp [F130, Fr.ofArgs]
 repeat' (refine brn_split (fun h => ?_) (fun h => ?_) <;> (try simp at h) <;> (try simp [h, d0]))
 all_goals simp_all [AStatement.beq, ibq]
end Go.Sim
end
section
namespace Go.Sim
set_option maxRecDepth 10000
set_option maxHeartbeats 8000000
theorem val91 (T : Tab) (hT : ∀ n F, tabC.get n = some F → T.F n = some F) (x y : ABank) (hx : x.ok) (hy : y.ok) : T.val 91 [x.dv, y.dv] = some (.d (.b (ABank.beq x y)), false) := by
 rw [val_k T (hT 91 F91 rfl) rfl]
 have d0 := val121 T hT x.Books y.Books hx.2.2.2.1 hy.2.2.2.1
 have d1 := val122 T (hT 122 F122 rfl) x.Periods.l y.Periods.l x.Periods.t y.Periods.t (hx.2.2.2.2.1).1
 have d2 := fun H0 hH => ref123 T (hT 123 F123 rfl) 124 ALoan.beq H0 hH x.Loans.l y.Loans.l (fun p hp q hq => val124 T hT p q ((hx.2.2.2.2.2.1).2 p hp)) x.Loans.t y.Loans.t (hx.2.2.2.2.2.1).1
 have d3 := val125 T (hT 125 F125 rfl) x.Orders.l y.Orders.l x.Orders.t y.Orders.t (hx.2.2.2.2.2.2.1).1
 have d4 := val126 T (hT 126 F126 rfl) x.Mandates.l y.Mandates.l x.Mandates.t y.Mandates.t (hx.2.2.2.2.2.2.2.1).1
 have d5 := val127 T (hT 127 F127 rfl) x.Debits.l y.Debits.l x.Debits.t y.Debits.t (hx.2.2.2.2.2.2.2.2.1).1
 have d6 := val128 T (hT 128 F128 rfl) x.Inbox.l y.Inbox.l x.Inbox.t y.Inbox.t (hx.2.2.2.2.2.2.2.2.2.1).1
 have d7 := fun H0 hH => ref129 T (hT 129 F129 rfl) 130 AStatement.beq H0 hH x.Statements.l y.Statements.l (fun p hp q hq => val130 T hT p q ((hx.2.2.2.2.2.2.2.2.2.2.1).2 p hp)) x.Statements.t y.Statements.t (hx.2.2.2.2.2.2.2.2.2.2.1).1
 have d8 := val131 T (hT 131 F131 rfl) x.Night.Avail.l y.Night.Avail.l x.Night.Avail.t y.Night.Avail.t (hx.2.2.2.2.2.2.2.2.2.2.2.2.2.2.2.2.1).1
 have d9 := val132 T (hT 132 F132 rfl) x.Night.Queue.l y.Night.Queue.l x.Night.Queue.t y.Night.Queue.t (hx.2.2.2.2.2.2.2.2.2.2.2.2.2.2.2.2.2).1
 have d10 := val133 T (hT 133 F133 rfl) x.Users.l y.Users.l x.Users.t y.Users.t (hx.2.2.2.2.2.2.2.2.2.2.2.1).1
 have d11 := fun H0 hH => ref134 T (hT 134 F134 rfl) 135 ARequest.beq H0 hH x.Requests.l y.Requests.l (fun p hp q hq => val135 T hT p q ((hx.2.2.2.2.2.2.2.2.2.2.2.2.1).2 p hp)) x.Requests.t y.Requests.t (hx.2.2.2.2.2.2.2.2.2.2.2.2.1).1
 have d12 := val136 T (hT 136 F136 rfl) x.Trail.l y.Trail.l x.Trail.t y.Trail.t (hx.2.2.2.2.2.2.2.2.2.2.2.2.2.1).1
 have e32 : eqA [2, 1, 1, 1] (.d x.Run.dv) (.d y.Run.dv) = some (ARun.beq x.Run y.Run) := by
  simp [eqA, eqL, eqK, ARun.dv, ARun.beq, ibq, bbq, Bool.and_assoc]
 simp [F91, Fr.ofArgs]
 repeat' (refine brn_split (fun h => ?_) (fun h => ?_) <;> (try simp at h) <;> (try simp [h, d0, d1, d2, d3, d4, d5, d6, d7, d8, d9, d10, d11, d12, e32, Cl_b2]))
 all_goals simp_all [ABank.beq, ANight.beq, ibq, sbq]
end Go.Sim
end
section
namespace Go.Sim
set_option maxRecDepth 10000
set_option maxHeartbeats 8000000
theorem law1083 (T : Tab) (hT : ∀ n F, tabC.get n = some F → T.F n = some F) (h0 : T.F 1083 = some F1083) (h1 : T.F 77 = some F77) (h2 : T.F 85 = some F85) (h3 : T.val 78 [] = some (.d (.b true), false)) (x y : ABank) (hx : x.ok) (hy : y.ok) : T.val 1083 [x.dv, y.dv] = some (.d (.b true), false) := by
 rw [val_k T h0 rfl]
 have d0 := val77 T h1 h2 x hx
 have d1 := val77 T h1 h2 y hy
 have e0 := val91 T hT x y hx hy
 have e1 := val82 T hT x y hx hy
 have e2 := val91 T hT x x hx hx
 have e3 := val91 T hT y x hy hx
 rw [ABank.beq_refl] at e2
 rw [ABank.beq_comm y x] at e3
 generalize ABank.beq x y = q at *
 simp [F1083, Fr.ofArgs, d0]
 repeat' (refine brn_split (fun h => ?_) (fun h => ?_) <;> (try simp at h) <;> (try simp [h, d1, e0, e1, e2, e3, h3]))
end Go.Sim
end
end
section
namespace Go.Sim
noncomputable section
def kget (fr : Fr) (t : Nat) : PV := @List.rec (Nat × PV) (fun _ => PV) .u (fun p _ ih => @Prod.rec Nat PV (fun _ => PV) (fun j v => @Bool.rec (fun _ => PV) ih v (Nat.beq j t)) p) fr
theorem beq_ne {j t : Nat} (h : ¬ j = t) : Nat.beq j t = false := by
 cases e : Nat.beq j t with
 | false => rfl
 | true => exact absurd (Nat.eq_of_beq_eq_true e) h
theorem kget_eq : ∀ fr t, kget fr t = Fr.get fr t
 | [], t => rfl
 | (j, v) :: r, t => by
  have ih := kget_eq r t
  show @Bool.rec (fun _ => PV) (kget r t) v (Nat.beq j t) = _
  rw [ih, Fr.get]
  by_cases h : j = t
  ·subst h; rw [if_pos rfl, Nat.beq_refl]
  ·rw [if_neg h, beq_ne h]
def kset (fr : Fr) (t : Nat) (v : PV) : Fr := @List.rec (Nat × PV) (fun _ => Fr) [(t, v)] (fun p r ih => @Prod.rec Nat PV (fun _ => Fr) (fun j x => @Bool.rec (fun _ => Fr) (@Bool.rec (fun _ => Fr) ((j, x) :: ih) ((t, v) :: (j, x) :: r) (Nat.ble (Nat.succ j) t)) ((t, v) :: r) (Nat.beq j t)) p) fr
theorem kset_eq : ∀ fr t v, kset fr t v = Fr.set fr t v
 | [], t, v => rfl
 | (j, x) :: r, t, v => by
  have ih := kset_eq r t v
  show @Bool.rec (fun _ => Fr) (@Bool.rec (fun _ => Fr) ((j, x) :: kset r t v) ((t, v) :: (j, x) :: r) (Nat.ble (Nat.succ j) t)) ((t, v) :: r) (Nat.beq j t) = _
  rw [ih, Fr.set]
  by_cases h : j = t
  ·subst h; rw [if_pos rfl, Nat.beq_refl]
  ·rw [if_neg h, beq_ne h]
   show @Bool.rec (fun _ => Fr) _ _ (Nat.ble (Nat.succ j) t) = _
   by_cases h2 : j < t
   ·rw [if_pos h2, Nat.ble_eq_true_of_le h2]
   ·rw [if_neg h2, Bool.eq_false_iff.2 (fun e => h2 (Nat.le_of_ble_eq_true e))]
def kmem (l : List Nat) (j : Nat) : Bool := @List.rec Nat (fun _ => Bool) false (fun x _ ih => @Bool.rec (fun _ => Bool) ih true (Nat.beq x j)) l
theorem kmem_eq : ∀ l j, kmem l j = l.contains j
 | [], j => rfl
 | x :: r, j => by
  have ih := kmem_eq r j
  show @Bool.rec (fun _ => Bool) (kmem r j) true (Nat.beq x j) = _
  rw [ih, List.contains_cons]
  by_cases h : x = j
  ·subst h; rw [Nat.beq_refl]; simp
  ·rw [beq_ne h]; have : (j == x) = false := by simpa using fun e => h e.symm
   rw [this]; rfl
def kdrop (l : List Nat) (fr : Fr) : Fr := @List.rec (Nat × PV) (fun _ => Fr) [] (fun p _ ih => @Prod.rec Nat PV (fun _ => Fr) (fun j v => @Bool.rec (fun _ => Fr) ((j, v) :: ih) (@Bool.rec (fun _ => Fr) ((j, v) :: ih) ih (Nat.ble (Nat.succ j) 100000)) (kmem l j)) p) fr
theorem kdrop_eq (l : List Nat) : ∀ fr, kdrop l fr = Fr.drop l fr
 | [] => rfl
 | (j, v) :: r => by
  have ih := kdrop_eq l r
  show @Bool.rec (fun _ => Fr) ((j, v) :: kdrop l r) (@Bool.rec (fun _ => Fr) ((j, v) :: kdrop l r) (kdrop l r) (Nat.blt j gh)) (kmem l j) = _
  rw [ih, Fr.drop, kmem_eq]
  cases l.contains j <;> cases Nat.blt j gh <;> rfl
def kmap {α β : Type} (f : α → β) (l : List α) : List β := @List.rec α (fun _ => List β) [] (fun x _ ih => f x :: ih) l
theorem kmap_eq {α β : Type} (f : α → β) : ∀ l, kmap f l = l.map f
 | [] => rfl
 | x :: r => by show f x :: kmap f r = _; rw [kmap_eq f r]; rfl
def kapp {α : Type} (l m : List α) : List α := @List.rec α (fun _ => List α) m (fun x _ ih => x :: ih) l
theorem kapp_eq {α : Type} : ∀ (l m : List α), kapp l m = l ++ m
 | [], m => rfl
 | x :: r, m => by show x :: kapp r m = _; rw [kapp_eq r m]; rfl
def klen {α : Type} (l : List α) : Nat := @List.rec α (fun _ => Nat) 0 (fun _ _ ih => Nat.succ ih) l
theorem klen_eq {α : Type} : ∀ (l : List α), klen l = l.length
 | [] => rfl
 | x :: r => by show Nat.succ (klen r) = _; rw [klen_eq r]; rfl
def knth {α : Type} (l : List α) : Nat → Option α := @List.rec α (fun _ => Nat → Option α) (fun _ => none) (fun x _ ih n => @Nat.rec (fun _ => Option α) (some x) (fun m _ => ih m) n) l
theorem knth_eq {α : Type} : ∀ (l : List α) (n : Nat), knth l n = l[n]?
 | [], n => rfl
 | x :: r, 0 => rfl
 | x :: r, n + 1 => by show knth r n = _; rw [knth_eq r n]; rfl
def krep {α : Type} (x : α) (n : Nat) (l : List α) : List α := @Nat.rec (fun _ => List α) l (fun _ ih => x :: ih) n
theorem krep_eq {α : Type} (x : α) (l : List α) : ∀ n, krep x n l = List.replicate n x ++ l
 | 0 => rfl
 | n + 1 => by show x :: krep x n l = _; rw [krep_eq x l n]; rfl
def kobj (H : Heap) (o : Nat) : Option Obj := @Option.rec (Option Obj) (fun _ => Option Obj) none (fun x => x) (knth H o)
theorem kobj_eq (H : Heap) (o : Nat) : kobj H o = Heap.obj H o := by
 unfold kobj Heap.obj; rw [knth_eq]; cases H[o]? <;> rfl
def krd (E : Env) (fr : Fr) (x : Rand) : PV := @Rand.rec (fun _ => PV) (fun t => kget fr t) (fun v => .d v) (fun n => match E.G n with | some (v, k) => .q v k 0 | none => .u) (fun n => .f n []) x
theorem krd_eq (E : Env) (fr : Fr) : krd E fr = rd E fr := by
 funext x
 cases x with
 | t n => exact kget_eq fr n
 | c v => rfl
 | f n => rfl
 | g n => simp only [krd, rd]; cases E.G n <;> rfl
def kloadA : Heap → K → PV → Option PV := loadA
def kstoreA : Heap → K → PV → PV → Option Heap := storeA
def kiaddr : Heap → K → PV → PV → Option PV := iaddr
def kbinA : BinOp → PV → PV → Option DV := binA
def kmoveA : Nat → PV → Option PV := moveA
def klenA : Heap → Bool → PV → Option Nat := lenA
def k_mov (x : Rand) (E : Env) (fr : Fr) (H : Heap) (_id : Nat) : Option (PV × Heap) := some (krd E fr x, H)
def k_pick (c : Rand) (a : Rand) (b : Rand) (E : Env) (fr : Fr) (H : Heap) (_id : Nat) : Option (PV × Heap) := match krd E fr c with
  | .d (.b true) => some (krd E fr a, H)
  | .d (.b false) => some (krd E fr b, H)
  | _ => none
def k_alloc (k : K) (z : DV) (_E : Env) (_fr : Fr) (H : Heap) (id : Nat) : Option (PV × Heap) := some (.p id 0 0, H.put id (some (.box k (.d z))))
def k_box (k : K) (x : Rand) (E : Env) (fr : Fr) (H : Heap) (id : Nat) : Option (PV × Heap) := if fits k (krd E fr x) then some (.p id 0 0, H.put id (some (.box k (krd E fr x)))) else none
def k_agg (z : List DV) (parts : List (Nat × K × Rand)) (E : Env) (fr : Fr) (H : Heap) (_id : Nat) : Option (PV × Heap) := match aggA (z.map .d) (parts.map fun x => (x.1, x.2.1, krd E fr x.2.2)) with
  | some cs => some (mkA cs, H)
  | none => none
def k_bsl (k : K) (z : DV) (len : Nat) (parts : List (Nat × Rand)) (E : Env) (fr : Fr) (H : Heap) (id : Nat) : Option (PV × Heap) := match bslA H k (List.replicate len z) (parts.map fun x => (x.1, krd E fr x.2)) with
  | some (es, os) => some (.r id k 0 len true, (frz H os).put id (some (.sl k 0 es)))
  | none => none
def k_load (k : K) (x : Rand) (E : Env) (fr : Fr) (H : Heap) (_id : Nat) : Option (PV × Heap) := opt (kloadA H k (krd E fr x)) H
def k_store (k : K) (x : Rand) (y : Rand) (E : Env) (fr : Fr) (H : Heap) (_id : Nat) : Option (PV × Heap) := match kstoreA H k (krd E fr x) (krd E fr y) with | some H' => some (.u, H') | none => none
def k_bin (op : BinOp) (x : Rand) (y : Rand) (E : Env) (fr : Fr) (H : Heap) (_id : Nat) : Option (PV × Heap) := optD (kbinA op (krd E fr x) (krd E fr y)) H
def k_eqv (neg : Bool) (n : List Nat) (x : Rand) (y : Rand) (E : Env) (fr : Fr) (H : Heap) (_id : Nat) : Option (PV × Heap) := match eqA n (krd E fr x) (krd E fr y) with
  | some e => some (.d (.b (if neg then !e else e)), H)
  | none => none
def k_eqb (neg : Bool) (x : Rand) (y : Rand) (E : Env) (fr : Fr) (H : Heap) (_id : Nat) : Option (PV × Heap) := match krd E fr x, krd E fr y with
  | .d (.b a), .d (.b b) => some (.d (.b (if neg then !(a == b) else a == b)), H)
  | _, _ => none
def k_isnil (neg : Bool) (kd : Nat) (x : Rand) (E : Env) (fr : Fr) (H : Heap) (_id : Nat) : Option (PV × Heap) := match nilA kd (krd E fr x) with | some b => some (.d (.b (if neg then !b else b)), H) | none => none
def k_un (op : UnOp) (x : Rand) (E : Env) (fr : Fr) (H : Heap) (_id : Nat) : Option (PV × Heap) := optD (unA op (krd E fr x)) H
def k_conv (k : IntKind) (x : Rand) (E : Env) (fr : Fr) (H : Heap) (_id : Nat) : Option (PV × Heap) := match krd E fr x with | .d (.i _ n) => some (.d (.i k (k.wrap n)), H) | _ => none
def k_slS (x : Rand) (lo : Option Rand) (hi : Option Rand) (E : Env) (fr : Fr) (H : Heap) (_id : Nat) : Option (PV × Heap) := match krd E fr x with
  | .d (.s s) => match bnd s.length s.length (hi.map (krd E fr)) with
   | some h => match bnd 0 h (lo.map (krd E fr)) with
    | some l => some (.d (.s ((s.take h).drop l)), H)
    | none => none
   | none => none
  | _ => none
def k_sl (k : K) (x : Rand) (lo : Option Rand) (hi : Option Rand) (mx : Option Rand) (E : Env) (fr : Fr) (H : Heap) (_id : Nat) : Option (PV × Heap) := opt (slA H k (krd E fr x) (lo.map (krd E fr)) (hi.map (krd E fr)) (mx.map (krd E fr))) H
def k_faddr (off : Nat) (x : Rand) (E : Env) (fr : Fr) (H : Heap) (_id : Nat) : Option (PV × Heap) := opt (kmoveA off (krd E fr x)) H
def k_field (off : Nat) (k : K) (x : Rand) (E : Env) (fr : Fr) (H : Heap) (_id : Nat) : Option (PV × Heap) := opt (fieldA off k (krd E fr x)) H
def k_iaddr (k : K) (x : Rand) (i : Rand) (E : Env) (fr : Fr) (H : Heap) (_id : Nat) : Option (PV × Heap) := opt (kiaddr H k (krd E fr x) (krd E fr i)) H
def k_iaddrA (len : Nat) (k : K) (x : Rand) (i : Rand) (E : Env) (fr : Fr) (H : Heap) (_id : Nat) : Option (PV × Heap) := match asI (krd E fr i) with
  | some n => match inR n len with | some j => opt (kmoveA (j * k.size) (krd E fr x)) H | none => none
  | none => none
def k_idxS (x : Rand) (i : Rand) (E : Env) (fr : Fr) (H : Heap) (_id : Nat) : Option (PV × Heap) := match krd E fr x, asI (krd E fr i) with
  | .d (.s s), some n => if 0 ≤ n then match s[n.toNat]? with
   | some b => some (.d (.i .u8 b.toNat), H)
   | none => none
   else none
  | _, _ => none
def k_idxA (len : Nat) (k : K) (x : Rand) (i : Rand) (E : Env) (fr : Fr) (H : Heap) (_id : Nat) : Option (PV × Heap) := match asI (krd E fr i) with
  | some n => match inR n len with
   | some j => opt (fieldA (j * k.size) k (krd E fr x)) H
   | none => none
  | none => none
def k_len (str : Bool) (x : Rand) (E : Env) (fr : Fr) (H : Heap) (_id : Nat) : Option (PV × Heap) := match klenA H str (krd E fr x) with | some n => some (.d (.i .i64 n), H) | none => none
def k_app (k : K) (bytes : Nat) (x : Rand) (y : Rand) (E : Env) (fr : Fr) (H : Heap) (id : Nat) : Option (PV × Heap) := appA H id k bytes (krd E fr x) (krd E fr y)
def k_call0 (f : Nat) (args : List Rand) (E : Env) (fr : Fr) (H : Heap) (_id : Nat) : Option (PV × Heap) := match purs H (kmap (krd E fr) args) with
  | some (ds, os) => match E.val f ds with
   | some (r, _) => some (r, if os.isEmpty || r.scal then H else frz H os)
   | none => none
  | none => none
def k_call1 (f : Nat) (args : List Rand) (E : Env) (fr : Fr) (H : Heap) (id : Nat) : Option (PV × Heap) := match purs H (kmap (krd E fr) args) with
  | some (ds, os) => match E.val f ds with
   | some (.d (.l k es _), true) => some (.r id k 0 es.length false, (if os.isEmpty then H else frz H os).put id (some (.sl k 0 es)))
   | _ => none
  | none => none
def k_call2 (f : Nat) (args : List Rand) (E : Env) (fr : Fr) (H : Heap) (_id : Nat) : Option (PV × Heap) := E.ref f (kmap (krd E fr) args) H
def k_call (mode f : Nat) (args : List Rand) : Env → Fr → Heap → Nat → Option (PV × Heap) := @Nat.rec (fun _ => Env → Fr → Heap → Nat → Option (PV × Heap)) (k_call0 f args) (fun m _ => @Nat.rec (fun _ => Env → Fr → Heap → Nat → Option (PV × Heap)) (k_call1 f args) (fun _ _ => k_call2 f args) m) mode
def k_callv (x : Rand) (args : List Rand) (E : Env) (fr : Fr) (H : Heap) (_id : Nat) : Option (PV × Heap) := match krd E fr x with
  | .f n caps => match (if caps.isEmpty then plains (kmap (krd E fr) args) else none) with
   | some ds => match E.val n ds with
    | some (r, _) => some (r, H)
    | none => none
   | none => E.ref n (kmap (krd E fr) args ++ caps) H
  | .m n firsts => match plains (firsts ++ kmap (krd E fr) args) with
   | some ds => match E.val n ds with
    | some (r, _) => some (r, H)
    | none => none
   | none => E.ref n (firsts ++ kmap (krd E fr) args) H
  | .h o => E.yld o (kmap (krd E fr) args) H
  | _ => none
def k_ext (x : Rand) (i : Nat) (E : Env) (fr : Fr) (H : Heap) (_id : Nat) : Option (PV × Heap) := match krd E fr x with
  | .t vs => opt vs[i]? H
  | _ => none
def k_mkf (f : Nat) (caps : List Rand) (E : Env) (fr : Fr) (H : Heap) (_id : Nat) : Option (PV × Heap) := some (.f f (kmap (krd E fr) caps), H)
def k_mkm (f : Nat) (caps : List Rand) (E : Env) (fr : Fr) (H : Heap) (_id : Nat) : Option (PV × Heap) := some (.m f (kmap (krd E fr) caps), H)
def k_prim (p : Nat) (args : List Rand) (E : Env) (fr : Fr) (H : Heap) (_id : Nat) : Option (PV × Heap) := opt (primA p (kmap (krd E fr) args)) H
def k_nilck (x : Rand) (E : Env) (fr : Fr) (H : Heap) (_id : Nat) : Option (PV × Heap) := match krd E fr x with
  | .p o i c => some (.p o i c, H)
  | .q v k c => some (.q v k c, H)
  | .f n cs => some (.f n cs, H)
  | _ => none
def k_mksl (k : K) (bytes : Nat) (z : DV) (len : Rand) (cap : Rand) (E : Env) (fr : Fr) (H : Heap) (id : Nat) : Option (PV × Heap) := match asI (krd E fr len), asI (krd E fr cap) with
  | some n, some c => if 0 ≤ n ∧ n ≤ c ∧ c * bytes ≤ 2 ^ 47 then some (.r id k 0 n.toNat false, H.put id (some (.sl k 0 (List.replicate n.toNat z)))) else none
  | _, _ => none
def k_minmax (mx : Bool) (args : List Rand) (E : Env) (fr : Fr) (H : Heap) (_id : Nat) : Option (PV × Heap) := match kmap (krd E fr) args with
  | v :: r => opt (mmA mx v r) H
  | [] => none
def k_copy (k : K) (x : Rand) (y : Rand) (E : Env) (fr : Fr) (H : Heap) (_id : Nat) : Option (PV × Heap) := match krd E fr x with
  | .r o k' off len _ => match kobj H o, elemsA H k (krd E fr y) with
   | some (.sl k'' ro es), some ys =>
    if K.eq k k' && K.eq k k'' && decide (off + len ≤ es.length) && decide (ro ≤ off) then
     let n := min ys.length len
     some (.d (.i .i64 n), H.put o (some (.sl k ro (putAt es off (ys.take n)))))
    else none
   | _, _ => none
  | _ => none
def k_clr (k : K) (z : DV) (x : Rand) (E : Env) (fr : Fr) (H : Heap) (_id : Nat) : Option (PV × Heap) := match krd E fr x with
  | .r o k' off len _ => match kobj H o with
   | some (.sl k'' ro es) =>
    if K.eq k k' && K.eq k k'' && decide (off + len ≤ es.length) && decide (ro ≤ off) then some (.t [], H.put o (some (.sl k ro (putAt es off (List.replicate len z))))) else none
   | _ => none
  | .d (.l _ [] _) => some (.t [], H)
  | _ => none
def k_mkif (t : Nat) (x : Rand) (E : Env) (fr : Fr) (H : Heap) (_id : Nat) : Option (PV × Heap) := match pur H (krd E fr x) with
  | some (v, os) => some (.d (.ifc t v), frz H os)
  | none => some (.w t (krd E fr x), H)
def k_tas (t : Nat) (z : DV) (ok : Bool) (x : Rand) (E : Env) (fr : Fr) (H : Heap) (_id : Nat) : Option (PV × Heap) := match krd E fr x with
  | .d (.ifc u v) => if u = t then some (if ok then .t [.d v, .d (.b true)] else .d v, H) else if ok then some (.t [.d z, .d (.b false)], H) else none
  | .w u v => if u = t then some (if ok then .t [v, .d (.b true)] else v, H) else if ok then some (.t [.d z, .d (.b false)], H) else none
  | .d .ni => if ok then some (.t [.d z, .d (.b false)], H) else none
  | _ => none
def k_invk (tab : List (Nat × Nat × Nat)) (x : Rand) (args : List Rand) (E : Env) (fr : Fr) (H : Heap) (_id : Nat) : Option (PV × Heap) := match krd E fr x with
  | .d (.ifc u v) => match lookT u tab with
   | some (0, f) => match purs H (kmap (krd E fr) args) with
    | some (ds, os) => match E.val f (v :: ds) with
     | some (r, _) => some (r, if os.isEmpty || r.scal then H else frz H os)
     | none => none
    | none => none
   | some (_, f) => E.ref f (.d v :: kmap (krd E fr) args) H
   | none => none
  | _ => none
def k_mkmap  (_E : Env) (_fr : Fr) (H : Heap) (id : Nat) : Option (PV × Heap) := some (.h id, H.put id (some (.mp [])))
def k_mget (ky : Ky) (z : DV) (ok : Bool) (x : Rand) (i : Rand) (E : Env) (fr : Fr) (H : Heap) (_id : Nat) : Option (PV × Heap) := match krd E fr i, krd E fr x with
  | .d k, .h o => if kyOK ky k then match kobj H o with
   | some (.mp es) => match getK k es with
    | some r => some (if ok then .t [.d (r.getD z), .d (.b r.isSome)] else .d (r.getD z), H)
    | none => none
   | _ => none
   else none
  | _, _ => none
def k_mset (ky : Ky) (x : Rand) (i : Rand) (v : Rand) (E : Env) (fr : Fr) (H : Heap) (_id : Nat) : Option (PV × Heap) := match krd E fr i, krd E fr x, pur H (krd E fr v) with
  | .d k, .h o, some (xv, os) => if kyOK ky k then match kobj H o with
   | some (.mp es) => match putK k xv es with
    | some es' => some (.u, (frz H os).put o (some (.mp es')))
    | none => none
   | _ => none
   else none
  | _, _, _ => none
def k_mdel (ky : Ky) (x : Rand) (i : Rand) (E : Env) (fr : Fr) (H : Heap) (_id : Nat) : Option (PV × Heap) := match krd E fr i, krd E fr x with
  | .d k, .h o => if kyOK ky k then match kobj H o with
   | some (.mp es) => match delK k es with
    | some es' => some (.u, H.put o (some (.mp es')))
    | none => none
   | _ => none
   else none
  | _, _ => none
def k_mlen (x : Rand) (E : Env) (fr : Fr) (H : Heap) (_id : Nat) : Option (PV × Heap) := match krd E fr x with
  | .h o => match kobj H o with
   | some (.mp es) => some (.d (.i .i64 es.length), H)
   | _ => none
  | _ => none
def k_rngS (x : Rand) (E : Env) (fr : Fr) (H : Heap) (id : Nat) : Option (PV × Heap) := match krd E fr x with
  | .d (.s l) => some (.h id, H.put id (some (.si l 0)))
  | _ => none
def k_nxt (x : Rand) (E : Env) (fr : Fr) (H : Heap) (_id : Nat) : Option (PV × Heap) := match krd E fr x with
  | .h o => match kobj H o with
   | some (.si l pos) =>
    if pos < l.length then
     let c := Utf8.decode ⟨l.toArray⟩ pos
     some (.t [.d (.b true), .d (.i .i64 pos), .d (.i .i32 c.1)], H.put o (some (.si l (pos + c.2))))
    else some (.t [.d (.b false)], H)
   | _ => none
  | _ => none
def k_sb (x : Rand) (E : Env) (fr : Fr) (H : Heap) (_id : Nat) : Option (PV × Heap) := match krd E fr x with
  | .d (.s _) => none
  | y => match elemsA H none y with
   | some es => match dbytes es with | some l => some (.d (.s l), H) | none => none
   | none => none
def k_bs (x : Rand) (E : Env) (fr : Fr) (H : Heap) (_id : Nat) : Option (PV × Heap) := match krd E fr x with
  | .d (.s l) => some (.d (.l none (bytesOf l) false), H)
  | _ => none
def k_dfr (x : Rand) (y : Rand) (E : Env) (fr : Fr) (H : Heap) (_id : Nat) : Option (PV × Heap) := match krd E fr x, krd E fr y with
  | .f n caps, .u => some (.g (.f n caps), H)
  | _, _ => none
def k_bad  (_E : Env) (_fr : Fr) (_H : Heap) (_id : Nat) : Option (PV × Heap) := none
def kop (op : IOp) : Env → Fr → Heap → Nat → Option (PV × Heap) := @IOp.rec (fun _ => Env → Fr → Heap → Nat → Option (PV × Heap)) k_mov k_pick k_alloc k_box k_agg k_bsl k_load k_store k_bin k_eqv k_eqb k_isnil k_un k_conv k_slS k_sl k_faddr k_field k_iaddr k_iaddrA k_idxS k_idxA k_len k_app k_call k_callv k_ext k_mkf k_mkm k_prim k_nilck k_mksl k_minmax k_copy k_clr k_mkif k_tas k_invk k_mkmap k_mget k_mset k_mdel k_mlen k_rngS k_nxt k_sb k_bs k_dfr k_bad op
theorem kop_eq (op : IOp) (E : Env) (fr : Fr) (H : Heap) (id : Nat) : kop op E fr H id = evalOp E (rd E fr) H id op := by
 rw [← krd_eq]
 have ko : kobj = Heap.obj := by funext H o; exact kobj_eq H o
 cases op with
 | mov x => show k_mov x E fr H id = _; simp only [k_mov, evalOp] <;> rfl
 | pick c a b => show k_pick c a b E fr H id = _; simp only [k_pick, evalOp] <;> rfl
 | alloc k z => show k_alloc k z E fr H id = _; simp only [k_alloc, evalOp] <;> rfl
 | box k x => show k_box k x E fr H id = _; simp only [k_box, evalOp] <;> rfl
 | agg z parts => show k_agg z parts E fr H id = _; simp only [k_agg, evalOp] <;> rfl
 | bsl k z len parts => show k_bsl k z len parts E fr H id = _; simp only [k_bsl, evalOp] <;> rfl
 | load k x => show k_load k x E fr H id = _; simp only [k_load, evalOp, kloadA] <;> rfl
 | store k x y => show k_store k x y E fr H id = _; simp only [k_store, evalOp, kstoreA] <;> rfl
 | bin op x y => show k_bin op x y E fr H id = _; simp only [k_bin, evalOp, kbinA] <;> rfl
 | eqv neg n x y => show k_eqv neg n x y E fr H id = _; simp only [k_eqv, evalOp] <;> rfl
 | eqb neg x y => show k_eqb neg x y E fr H id = _; simp only [k_eqb, evalOp] <;> rfl
 | isnil neg kd x => show k_isnil neg kd x E fr H id = _; simp only [k_isnil, evalOp] <;> rfl
 | un op x => show k_un op x E fr H id = _; simp only [k_un, evalOp] <;> rfl
 | conv k x => show k_conv k x E fr H id = _; simp only [k_conv, evalOp] <;> rfl
 | slS x lo hi => show k_slS x lo hi E fr H id = _; simp only [k_slS, evalOp] <;> rfl
 | sl k x lo hi mx => show k_sl k x lo hi mx E fr H id = _; simp only [k_sl, evalOp] <;> rfl
 | faddr off x => show k_faddr off x E fr H id = _; simp only [k_faddr, evalOp, kmoveA] <;> rfl
 | field off k x => show k_field off k x E fr H id = _; simp only [k_field, evalOp] <;> rfl
 | iaddr k x i => show k_iaddr k x i E fr H id = _; simp only [k_iaddr, evalOp, kiaddr] <;> rfl
 | iaddrA len k x i => show k_iaddrA len k x i E fr H id = _; simp only [k_iaddrA, evalOp, kmoveA] <;> rfl
 | idxS x i => show k_idxS x i E fr H id = _; simp only [k_idxS, evalOp] <;> rfl
 | idxA len k x i => show k_idxA len k x i E fr H id = _; simp only [k_idxA, evalOp] <;> rfl
 | len str x => show k_len str x E fr H id = _; simp only [k_len, evalOp, klenA] <;> rfl
 | app k bytes x y => show k_app k bytes x y E fr H id = _; simp only [k_app, evalOp] <;> rfl
 | call m f args => match m with
  | 0 => show k_call0 f args E fr H id = _; simp only [k_call0, evalOp, kmap_eq] <;> rfl
  | 1 => show k_call1 f args E fr H id = _; simp only [k_call1, evalOp, kmap_eq] <;> rfl
  | m + 2 => show k_call2 f args E fr H id = _; simp only [k_call2, evalOp, kmap_eq] <;> rfl
 | callv x args => show k_callv x args E fr H id = _; simp only [k_callv, evalOp, kmap_eq] <;> rfl
 | ext x i => show k_ext x i E fr H id = _; simp only [k_ext, evalOp] <;> rfl
 | mkf f caps => show k_mkf f caps E fr H id = _; simp only [k_mkf, evalOp, kmap_eq] <;> rfl
 | mkm f caps => show k_mkm f caps E fr H id = _; simp only [k_mkm, evalOp, kmap_eq] <;> rfl
 | prim p args => show k_prim p args E fr H id = _; simp only [k_prim, evalOp, kmap_eq] <;> rfl
 | nilck x => show k_nilck x E fr H id = _; simp only [k_nilck, evalOp] <;> rfl
 | mksl k bytes z len cap => show k_mksl k bytes z len cap E fr H id = _; simp only [k_mksl, evalOp] <;> rfl
 | minmax mx args => show k_minmax mx args E fr H id = _; simp only [k_minmax, evalOp, kmap_eq] <;> rfl
 | copy k x y => show k_copy k x y E fr H id = _; simp only [k_copy, evalOp, ko] <;> rfl
 | clr k z x => show k_clr k z x E fr H id = _; simp only [k_clr, evalOp, ko] <;> rfl
 | mkif t x => show k_mkif t x E fr H id = _; simp only [k_mkif, evalOp] <;> rfl
 | tas t z ok x => show k_tas t z ok x E fr H id = _; simp only [k_tas, evalOp] <;> rfl
 | invk tab x args => show k_invk tab x args E fr H id = _; simp only [k_invk, evalOp, kmap_eq] <;> rfl
 | mkmap  => show k_mkmap  E fr H id = _; simp only [k_mkmap, evalOp] <;> rfl
 | mget ky z ok x i => show k_mget ky z ok x i E fr H id = _; simp only [k_mget, evalOp, ko] <;> rfl
 | mset ky x i v => show k_mset ky x i v E fr H id = _; simp only [k_mset, evalOp, ko] <;> rfl
 | mdel ky x i => show k_mdel ky x i E fr H id = _; simp only [k_mdel, evalOp, ko] <;> rfl
 | mlen x => show k_mlen x E fr H id = _; simp only [k_mlen, evalOp, ko] <;> rfl
 | rngS x => show k_rngS x E fr H id = _; simp only [k_rngS, evalOp] <;> rfl
 | nxt x => show k_nxt x E fr H id = _; simp only [k_nxt, evalOp, ko] <;> rfl
 | sb x => show k_sb x E fr H id = _; simp only [k_sb, evalOp] <;> rfl
 | bs x => show k_bs x E fr H id = _; simp only [k_bs, evalOp] <;> rfl
 | dfr x y => show k_dfr x y E fr H id = _; simp only [k_dfr, evalOp] <;> rfl
 | bad  => show k_bad  E fr H id = _; simp only [k_bad, evalOp] <;> rfl
def kdst (d : Option Nat) (fr : Fr) (v : PV) : Fr := @Option.rec Nat (fun _ => Fr) fr (fun t => kset fr t v) d
abbrev KCf := Env → Nat → Fr → Heap → Option St
def kadd (op : IOp) (id : Nat) : Nat := @Bool.rec (fun _ => Nat) id (Nat.succ id) op.adds
def kgo (dst : Option Nat) (op : IOp) (ih : KCf) (E : Env) (id : Nat) (fr : Fr) (H : Heap) : Option St := @Option.rec (PV × Heap) (fun _ => Option St) none (fun p => @Prod.rec PV Heap (fun _ => Option St) (fun v H' => ih E (kadd op id) (kdst dst fr v) H') p) (kop op E fr H id)
def kno (dst : Option Nat) (op : IOp) (ih : KCf) (E : Env) (id : Nat) (fr : Fr) (H : Heap) : Option St := ih E (kadd op id) (kdst dst fr (.t [])) H
def kguard (v : PV) (want : Bool) (go no : Option St) : Option St := match v with
 | .d (.b b) => if b == want then go else no
 | .t [] => no
 | _ => none
def kstep (dst : Option Nat) (op : IOp) (g : Option (Nat × Bool)) (ih : KCf) (E : Env) (id : Nat) (fr : Fr) (H : Heap) : Option St :=
 @Option.rec (Nat × Bool) (fun _ => Option St) (kgo dst op ih E id fr H) (fun p => @Prod.rec Nat Bool (fun _ => Option St) (fun t want => kguard (kget fr t) want (kgo dst op ih E id fr H) (kno dst op ih E id fr H)) p) g
def kops (l : List IOper) : KCf := @List.rec IOper (fun _ => KCf) (fun _ _ fr H => some ⟨fr, H⟩) (fun o _ ih => @IOper.rec (fun _ => KCf) (fun dst op g => kstep dst op g ih) o) l
def sdst (d : Option Nat) (fr : Fr) (v : PV) : Fr := match d with | some t => fr.set t v | none => fr
theorem kops_eq (E : Env) : ∀ (l : List IOper) (id : Nat) (fr : Fr) (H : Heap), kops l E id fr H = evalOps E l id ⟨fr, H⟩
 | [], id, fr, H => rfl
 | ⟨dst, op, g⟩ :: r, id, fr, H => by
  have ih := kops_eq E r
  have hadd : kadd op id = if op.adds then id + 1 else id := by unfold kadd; cases op.adds <;> rfl
  have hd : ∀ v, kdst dst fr v = sdst dst fr v := by intro v; cases dst <;> simp [kdst, kset_eq, sdst]
  have hgo : kgo dst op (kops r) E id fr H = match evalOp E (rd E fr) H id op with | some (v, H') => evalOps E r (if op.adds then id + 1 else id) ⟨sdst dst fr v, H'⟩ | none => none := by
   unfold kgo
   rw [kop_eq]
   cases h : evalOp E (rd E fr) H id op with
   | none => rfl
   | some p => obtain ⟨v, H'⟩ := p; show kops r E _ _ _ = _; rw [ih, hadd, hd]
  have hno : kno dst op (kops r) E id fr H = evalOps E r (if op.adds then id + 1 else id) ⟨sdst dst fr (.t []), H⟩ := by
   unfold kno; rw [ih, hadd, hd]
  show kstep dst op g (kops r) E id fr H = _
  unfold kstep
  rw [evalOps, hgo, hno]
  cases g with
  | none => cases dst <;> rfl
  | some p =>
   obtain ⟨t, want⟩ := p
   show kguard (kget fr t) want _ _ = _
   rw [kget_eq]
   cases dst <;> rfl
def kreg (ops : List IOper) (kill : List Nat) (E : Env) (fr : Fr) (H : Heap) : Option St := @Option.rec St (fun _ => Option St) none (fun s => @St.rec (fun _ => Option St) (fun fr' H' => some ⟨kdrop kill fr', H'⟩) s) (kops ops E (klen H) fr (kapp H (krep none (nadds ops) [])))
theorem kreg_eq (ops : List IOper) (kill : List Nat) (E : Env) (fr : Fr) (H : Heap) : kreg ops kill E fr H = evalReg E ops kill ⟨fr, H⟩ := by
 unfold kreg evalReg
 rw [kops_eq, klen_eq, kapp_eq, krep_eq, List.append_nil]
 cases evalOps E ops H.length ⟨fr, H ++ List.replicate (nadds ops) none⟩ with
 | none => rfl
 | some s => obtain ⟨fr', H'⟩ := s; show some _ = _; rw [kdrop_eq]
abbrev KR := Env → ((St → Res) → St → Res) → Nat → Fr → Heap → Res
def kthen (r : Res) (f : Fr → Heap → Res) : Res := @Option.rec (Ex × St) (fun _ => Res) none (fun p => @Prod.rec Ex St (fun _ => Res) (fun e s => @Ex.rec (fun _ => Res) (@St.rec (fun _ => Res) f s) (fun j => some (.exit j, s)) (some (.ret, s)) e) p) r
def kc_skip : KR := fun _ _ _ fr H => some (.norm, ⟨fr, H⟩)
def kc_reg (ops : List IOper) (kill : List Nat) : KR := fun E _ _ fr H => @Option.rec St (fun _ => Res) none (fun s => some (.norm, s)) (kreg ops kill E fr H)
def kc_regD (ops : List IOper) (bf kill : List Nat) : KR := fun E _ _ fr H => match evalRegD E ops bf kill ⟨fr, H⟩ with | some s' => some (.norm, s') | none => none
def kc_seq (_ _ : PC) (a b : KR) : KR := fun E lp base fr H => kthen (a E lp base fr H) fun fr H => b E lp base fr H
def kc_cond (c : Rand) (_ _ : PC) (x y : KR) : KR := fun E lp base fr H => match krd E fr c with
 | .d (.b true) => x E lp base fr H
 | .d (.b false) => y E lp base fr H
 | _ => none
def kblk (id : Nat) (r : Res) : Res := @Option.rec (Ex × St) (fun _ => Res) none (fun p => @Prod.rec Ex St (fun _ => Res) (fun e s => @Ex.rec (fun _ => Res) (some (.norm, s)) (fun j => @Bool.rec (fun _ => Res) (some (.exit j, s)) (some (.norm, s)) (Nat.beq j id)) (some (.ret, s)) e) p) r
def kc_block (id : Nat) (_ : PC) (x : KR) : KR := fun E lp base fr H => kblk id (x E lp base fr H)
def kround (live : List Nat) (x : KR) (E : Env) (lp : (St → Res) → St → Res) (base : Nat) (s : St) : Res := @St.rec (fun _ => Res) (fun fr H => x E lp base fr H) (gc live base s)
def kc_loop (live : List Nat) (_ : PC) (x : KR) : KR := fun E lp base fr H => lp (kround live x E lp base) ⟨fr, H⟩
def kc_rng (f : Rand) (g : Nat) (ps live : List Nat) (a x : PC) (_ _ : KR) : KR := fun E lp base fr H => evalC E lp base (.rng f g ps live a x) ⟨fr, H⟩
def kc_exit (id : Nat) : KR := fun _ _ _ fr H => some (.exit id, ⟨fr, H⟩)
def kc_ret : KR := fun _ _ _ fr H => some (.ret, ⟨fr, H⟩)
def kc_bad : KR := fun _ _ _ _ _ => none
def kev (c : PC) : KR := @PC.rec (fun _ => KR) kc_skip kc_reg kc_regD kc_seq kc_cond kc_block kc_loop kc_rng kc_exit kc_ret kc_bad c
theorem kev_eq (E : Env) (lp : (St → Res) → St → Res) (base : Nat) : ∀ (c : PC) (fr : Fr) (H : Heap), kev c E lp base fr H = evalC E lp base c ⟨fr, H⟩ := by
 intro c
 induction c with
 | skip => intro fr H; rfl
 | reg ops kill =>
  intro fr H
  show @Option.rec St (fun _ => Res) none (fun s => some (.norm, s)) (kreg ops kill E fr H) = _
  rw [kreg_eq, evalC]; cases evalReg E ops kill ⟨fr, H⟩ <;> rfl
 | regD ops bf kill => intro fr H; rfl
 | seq a b iha ihb =>
  intro fr H
  show kthen (kev a E lp base fr H) (fun fr H => kev b E lp base fr H) = _
  rw [iha, evalC]
  cases evalC E lp base a ⟨fr, H⟩ with
  | none => rfl
  | some p =>
   obtain ⟨e, s⟩ := p
   cases e with
   | norm => obtain ⟨fr', H'⟩ := s; exact ihb fr' H'
   | exit j => rfl
   | ret => rfl
 | cond c x y ihx ihy =>
  intro fr H
  show kc_cond c x y (kev x) (kev y) E lp base fr H = _
  unfold kc_cond
  rw [krd_eq, evalC, ihx, ihy]
  rfl
 | block id x ih =>
  intro fr H
  show kblk id (kev x E lp base fr H) = _
  rw [ih, evalC]
  cases evalC E lp base x ⟨fr, H⟩ with
  | none => rfl
  | some p =>
   obtain ⟨e, s⟩ := p
   cases e with
   | norm => rfl
   | exit j =>
    show @Bool.rec (fun _ => Res) (some (.exit j, s)) (some (.norm, s)) (Nat.beq j id) = if j == id then _ else _
    have : (j == id) = Nat.beq j id := by by_cases h : j = id; · { subst h; rw [Nat.beq_refl]; simp }; · { rw [beq_ne h]; simpa using h }
    rw [this]
    cases Nat.beq j id <;> rfl
   | ret => rfl
 | loop live x ih =>
  intro fr H
  show lp (kround live (kev x) E lp base) ⟨fr, H⟩ = _
  rw [evalC]
  congr 1
  funext s
  exact ih _ _
 | rng f g ps live a x iha ihx => intro fr H; rfl
 | exit id => intro fr H; rfl
 | ret => intro fr H; rfl
 | bad => intro fr H; rfl
def klp (n : Nat) : (St → Res) → St → Res := @Nat.rec (fun _ => (St → Res) → St → Res) (fun _ _ => none) (fun _ ih f s => @Option.rec (Ex × St) (fun _ => Res) none (fun p => @Prod.rec Ex St (fun _ => Res) (fun e s' => @Ex.rec (fun _ => Res) (ih f s') (fun j => some (.exit j, s')) (some (.ret, s')) e) p) (f s)) n
theorem klp_eq : ∀ n, klp n = lpN n
 | 0 => rfl
 | n + 1 => by
  funext f s
  have ih := klp_eq n
  show @Option.rec (Ex × St) (fun _ => Res) none (fun p => @Prod.rec Ex St (fun _ => Res) (fun e s' => @Ex.rec (fun _ => Res) (klp n f s') (fun j => some (.exit j, s')) (some (.ret, s')) e) p) (f s) = _
  rw [ih, lpN]
  cases f s with
  | none => rfl
  | some p => obtain ⟨e, s'⟩ := p; cases e <;> rfl
def kfin (E : Env) (rs : List RV) (s : St) : Option (PV × Heap) := match runG E (ghosts s.fr) s.H with
   | some H' => match results s.fr H' rs with
    | some vs => some (packed vs, H')
    | none => none
   | none => none
def kend (E : Env) (rs : List RV) (r : Res) : Option (PV × Heap) := @Option.rec (Ex × St) (fun _ => Option (PV × Heap)) none (fun p => @Prod.rec Ex St (fun _ => Option (PV × Heap)) (fun e s => @Ex.rec (fun _ => Option (PV × Heap)) (kfin E rs s) (fun _ => none) (kfin E rs s) e) p) r
def kargs : List PV → Nat → Fr := fun l => @List.rec PV (fun _ => Nat → Fr) (fun _ => []) (fun v _ ih j => kapp (ih (Nat.succ j)) [(j, v)]) l
theorem kargs_eq : ∀ (l : List PV) (j : Nat), kargs l j = Fr.ofArgs j l
 | [], j => rfl
 | v :: r, j => by show kapp (kargs r (j + 1)) [(j, v)] = _; rw [kapp_eq, kargs_eq r, Fr.ofArgs]
def kfn (E : Env) (lp : (St → Res) → St → Res) (F : PF) (args : List PV) (H : Heap) : Option (PV × Heap) := @PF.rec (fun _ => Option (PV × Heap)) (fun nargs rs body => @Bool.rec (fun _ => Option (PV × Heap)) none (kend E rs (kev body E lp (klen H) (kargs args 0) H)) (Nat.beq (klen args) nargs)) F
theorem kfn_eq (E : Env) (lp : (St → Res) → St → Res) (F : PF) (args : List PV) (H : Heap) : kfn E lp F args H = evalF E lp F args H := by
 obtain ⟨nargs, rs, body⟩ := F
 show @Bool.rec (fun _ => Option (PV × Heap)) none (kend E rs (kev body E lp (klen H) (kargs args 0) H)) (Nat.beq (klen args) nargs) = _
 rw [klen_eq, klen_eq, kev_eq, kargs_eq]
 unfold evalF
 by_cases h : args.length = nargs
 ·rw [if_pos h, h, Nat.beq_refl]
  show kend E rs (evalC E lp H.length body ⟨Fr.ofArgs 0 args, H⟩) = _
  cases evalC E lp H.length body ⟨Fr.ofArgs 0 args, H⟩ with
  | none => rfl
  | some p => obtain ⟨e, s⟩ := p; cases e <;> rfl
 ·rw [if_neg h, beq_ne h]
abbrev KY := Nat → List PV → Heap → Option (PV × Heap)
structure KP where
 it : KY → KY
 val : Nat → List DV → Option (PV × Bool)
def kitF (E : Env) (lp : (St → Res) → St → Res) (args : List PV) (H : Heap) (F : PF) : Option (PV × Heap) := @Option.rec (PV × Heap) (fun _ => Option (PV × Heap)) none (fun p => @Prod.rec PV Heap (fun _ => Option (PV × Heap)) (fun v H' => some (gcV (klen H) v H')) p) (kfn E lp F args H)
def kit (T : Tab) (n : Nat) (P : KP) (Y : KY) (f : Nat) (args : List PV) (H : Heap) : Option (PV × Heap) := @Option.rec PF (fun _ => Option (PV × Heap)) (T.R f args H) (kitF ⟨T.G, P.it noY, P.val, Y, P.it, T.dok⟩ (klp n) args H) (T.F f)
def kvalF (E : Env) (lp : (St → Res) → St → Res) (args : List DV) (F : PF) : Option (PV × Bool) := @Option.rec (PV × Heap) (fun _ => Option (PV × Bool)) none (fun p => @Prod.rec PV Heap (fun _ => Option (PV × Bool)) (fun v H' => purT H' v) p) (kfn E lp F (kmap .d args) [])
def kval (T : Tab) (n : Nat) (P : KP) (f : Nat) (args : List DV) : Option (PV × Bool) := @Option.rec PF (fun _ => Option (PV × Bool)) (T.X f args) (kvalF ⟨T.G, P.it noY, P.val, noY, P.it, T.dok⟩ (klp n) args) (T.F f)
def kN (T : Tab) (n : Nat) : KP := @Nat.rec (fun _ => KP) ⟨fun _ _ _ _ => none, fun _ _ => none⟩ (fun n P => ⟨kit T n P, kval T n P⟩) n
theorem kN_eq (T : Tab) : ∀ n, (kN T n).it = itN T n ∧ (kN T n).val = valN T n
 | 0 => ⟨by funext Y f a H; rw [itN]; rfl, by funext f a; rw [valN]; rfl⟩
 | n + 1 => by
  obtain ⟨h1, h2⟩ := kN_eq T n
  constructor
  ·funext Y f a H
   show kit T n (kN T n) Y f a H = _
   rw [itN_succ]
   unfold kit
   cases T.F f with
   | none => rfl
   | some F =>
    show kitF _ (klp n) a H F = _
    unfold kitF
    rw [h1, h2, klp_eq, kfn_eq, klen_eq]
    show @Option.rec (PV × Heap) (fun _ => Option (PV × Heap)) none _ (evalF (envY T n Y) (lpN n) F a H) = _
    dsimp only
    cases evalF (envY T n Y) (lpN n) F a H with
    | none => rfl
    | some p => rfl
  ·funext f a
   show kval T n (kN T n) f a = _
   rw [valN_succ]
   unfold kval
   cases T.F f with
   | none => rfl
   | some F =>
    show kvalF _ (klp n) a F = _
    unfold kvalF
    rw [h1, h2, klp_eq, kfn_eq, kmap_eq]
    show @Option.rec (PV × Heap) (fun _ => Option (PV × Bool)) none _ (evalF (envN T n) (lpN n) F (a.map .d) []) = _
    dsimp only
    cases evalF (envN T n) (lpN n) F (a.map .d) [] with
    | none => rfl
    | some p => rfl
theorem val_run {T : Tab} {f : Nat} {args : List DV} {r : PV × Bool} (n : Nat) (h : (kN T n).val f args = some r) : T.val f args = some r := (val_some T f args r).2 ⟨n, by rw [← (kN_eq T n).2]; exact h⟩
end
end Go.Sim
end
