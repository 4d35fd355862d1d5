/- Part 15 of the proof: CbE3, CbE4, CbTc, CbE7, CbV51M, CbO2, CbO3, CbO9, CbO4, CbH1, CbO5, CbO6, CbO7, CbO8, CbT1, CbT2, CbT3, CbE6b, CbEd, CbEd3, CbE5d, CbEd4, CbE6c, CbEe1, CbEe2, CbE6a, CbE8, CbE9c, CbE9a, CbE9b, CbEa1, CbEb2, CbEd1, CbE5c, CbEd2, CbEe3, CbOa, CbFast. -/
import Derived.Test.YtehcjdaedhmkdaaGreatDoorB14
import Derived.Test.YtehcjdaedhmkdaaGreatDoorB7
import Derived.Test.YtehcjdaedhmkdaaGreatDoorB8
import Derived.Test.YtehcjdaedhmkdaaGreatDoorB6
import Derived.Test.YtehcjdaedhmkdaaGreatDoorB9
import Derived.KernelRfl
import Derived.Test.YtehcjdaedhmkdaaGreatDoorB3
section
open Go.Sim
attribute [local simp ↓] kC_skip kC_ret kC_exit kC_seq kC_block kC_reg kC_cond kC_condc sqK blK lpK kO_nil kO_O kO_E kO_OG kO_EG grd_b grd_t tst_b brn_true brn_false brn_not chk_T b_mov b_pick b_alloc b_box b_load b_store b_bin b_un b_eqv b_faddr b_field b_iaddr b_sl b_len b_app b_call b_call1 b_callR b_ext bo_some bo_none bo2_some bo2_none bo_iaddr bo_addS bo_quo bo_rem bo_bnd bo_bnd0 ld_q0 ld_qw ld_p subP0 subPw bo_moveP bo_moveQ bo_lenl bo_lens bo_lenr bo_add bo_sub bo_mul bo_eql bo_neq bo_lss bo_leq bo_gtr bo_geq bo_neg bo_not bo_eqS bo_neS grd_nb b_slS slSK_s extK_t ownL_l fin_ret fin_norm bo_res0 bo_rest bo_resc st_p stK_box b_callv callvK_f0 callvK_f1 mkf_b subPs ld_qs kC_regS0 kC_regS1 kC_regS2 kC_regS3 kC_regS4 kC_regS5 b_eqb eqbK_b
attribute [local simp] K_refl obj_0 obj_s get_c get_n drop_c drop_n set_c set_n fix_c fix_n rd IOp.adds nadds gh nid rgK rdS ghosts_c ghosts_n packed1 packed2 purT_b purT_i purT_s purT_a purT_lt purT_lf K_ss K_ns K_sn plains_n plains_c env_val env_ref purs_n purs_d put_0 put_s
section
namespace Go.Sim
set_option maxRecDepth 10000
theorem lp95_0 (T : Tab) (z : List (ADue × ADue)) (s t : Bool) (hn : z.length ≤ maxLen) {k : KC (PV × Bool)} {r : Option (PV × Bool)} {fr : Fr} {H : Heap} (hr : RetF 4 k r) (h0 : gc [0, 1, 5] 0 ⟨fr, H⟩ = ⟨[(5, .d (I 0)), (1, .d (.l (K1 4) ((z.map Prod.snd).map ADue.dv) t)), (0, .d (.l (K1 4) ((z.map Prod.fst).map ADue.dv) s))], []⟩) :
  kC T.env 0 fr H (.h (.loop [0, 1, 5] L95_0, k)) = brn (z.all fun p => ADue.beq p.1 p.2) (.h (k (.exit 0) [(14, .d (.b false)), (5, .d (I z.length)), (1, .d (.l (K1 4) ((z.map Prod.snd).map ADue.dv) t)), (0, .d (.l (K1 4) ((z.map Prod.fst).map ADue.dv) s))] [], r)) := by
 have hm := mxl
 rw [loop_rounds z (fun i _ => ⟨[(5, .d (I i)), (1, .d (.l (K1 4) ((z.map Prod.snd).map ADue.dv) t)), (0, .d (.l (K1 4) ((z.map Prod.fst).map ADue.dv) s))], []⟩) (fun _ _ => True) (fun i _ p c => if ADue.beq p.1 p.2 = true then c () else r) (fun _ => k (.exit 0) [(14, .d (.b false)), (5, .d (I z.length)), (1, .d (.l (K1 4) ((z.map Prod.snd).map ADue.dv) t)), (0, .d (.l (K1 4) ((z.map Prod.fst).map ADue.dv) s))] []) ?_ ?_ h0 trivial]
 ·rw [rounds_all (fun p => ADue.beq p.1 p.2) r]
  ·cases z.all fun p => ADue.beq p.1 p.2 <;> rfl
  ·exact fun _ _ _ _ => rfl
 ·intro B _ _ _
  simp [L95_0]
 ·intro B _ i _ hi _ c hc
  have h1 : (i : Int) < z.length := by omega
  have h3 := wr1 (i := i) (by omega)
  have he : eqA [1, 1, 1, 1] (.d (ADue.dv z[i].1)) (.d (ADue.dv z[i].2)) = some (ADue.beq z[i].1 z[i].2) := by
   simp [eqA, eqL, eqK, ADue.dv, ADue.beq, ibq, Bool.and_assoc]
  simp [L95_0, h1, hi, he]
  repeat' (refine brn_split (fun h => ?_) (fun h => ?_) <;> (try simp at h) <;> (try simp [h, h3]))
  all_goals first
   | exact hr _ _ (by simp [Fr.get]) (by simp [ghosts, gh])
   | exact hc () _ _ trivial (by simp [gc, Fr.keep, reach, frRefs, heapRefs, PV.refs, gcH, PV.ren, Obj.ren, Heap.obj, Fr.ren, gh])
theorem lp96_0 (T : Tab) (z : List (AChange × AChange)) (s t : Bool) (hn : z.length ≤ maxLen) {k : KC (PV × Bool)} {r : Option (PV × Bool)} {fr : Fr} {H : Heap} (hr : RetF 4 k r) (h0 : gc [0, 1, 5] 0 ⟨fr, H⟩ = ⟨[(5, .d (I 0)), (1, .d (.l (K1 14) ((z.map Prod.snd).map AChange.dv) t)), (0, .d (.l (K1 14) ((z.map Prod.fst).map AChange.dv) s))], []⟩) :
  kC T.env 0 fr H (.h (.loop [0, 1, 5] L96_0, k)) = brn (z.all fun p => AChange.beq p.1 p.2) (.h (k (.exit 0) [(14, .d (.b false)), (5, .d (I z.length)), (1, .d (.l (K1 14) ((z.map Prod.snd).map AChange.dv) t)), (0, .d (.l (K1 14) ((z.map Prod.fst).map AChange.dv) s))] [], r)) := by
 have hm := mxl
 rw [loop_rounds z (fun i _ => ⟨[(5, .d (I i)), (1, .d (.l (K1 14) ((z.map Prod.snd).map AChange.dv) t)), (0, .d (.l (K1 14) ((z.map Prod.fst).map AChange.dv) s))], []⟩) (fun _ _ => True) (fun i _ p c => if AChange.beq p.1 p.2 = true then c () else r) (fun _ => k (.exit 0) [(14, .d (.b false)), (5, .d (I z.length)), (1, .d (.l (K1 14) ((z.map Prod.snd).map AChange.dv) t)), (0, .d (.l (K1 14) ((z.map Prod.fst).map AChange.dv) s))] []) ?_ ?_ h0 trivial]
 ·rw [rounds_all (fun p => AChange.beq p.1 p.2) r]
  ·cases z.all fun p => AChange.beq p.1 p.2 <;> rfl
  ·exact fun _ _ _ _ => rfl
 ·intro B _ _ _
  simp [L96_0]
 ·intro B _ i _ hi _ c hc
  have h1 : (i : Int) < z.length := by omega
  have h3 := wr1 (i := i) (by omega)
  have he : eqA [1, 1, 1, 1, 1, 1, 1, 1, 1, 1, 1, 1, 3, 3] (.d (AChange.dv z[i].1)) (.d (AChange.dv z[i].2)) = some (AChange.beq z[i].1 z[i].2) := by
   simp [eqA, eqL, eqK, AChange.dv, AChange.beq, ATerms.beq, ibq, sbq, Bool.and_assoc]
  simp [L96_0, h1, hi, he]
  repeat' (refine brn_split (fun h => ?_) (fun h => ?_) <;> (try simp at h) <;> (try simp [h, h3]))
  all_goals first
   | exact hr _ _ (by simp [Fr.get]) (by simp [ghosts, gh])
   | exact hc () _ _ trivial (by simp [gc, Fr.keep, reach, frRefs, heapRefs, PV.refs, gcH, PV.ren, Obj.ren, Heap.obj, Fr.ren, gh])
theorem lp97_0 (T : Tab) (x y : ABooks) (z : List (AEntry × AEntry)) (hx : x.Journal.l = z.map Prod.fst) (hy : y.Journal.l = z.map Prod.snd) (hv : ∀ p ∈ z, T.val 9 [AEntry.dv p.1, AEntry.dv p.2] = some (.d (.b (AEntry.beq p.1 p.2)), false)) (hn : z.length ≤ maxLen) {k : KC (PV × Bool)} {r : Option (PV × Bool)} {fr : Fr} {H : Heap} (hr : RetF 4 k r) (h0 : gc [2, 3, 5] 0 ⟨fr, H⟩ = ⟨[(5, .d (I 0)), (3, .p 0 0 0), (2, .p 1 0 0)], [some (.box (K1 22) (.d y.dv)), some (.box (K1 22) (.d x.dv))]⟩) :
  kC T.env 0 fr H (.h (.loop [2, 3, 5] L97_0, k)) = brn (z.all fun p => AEntry.beq p.1 p.2) (.h (k (.exit 0) [(51, .d (.b false)), (5, .d (I z.length)), (3, .p 0 0 0), (2, .p 1 0 0)] [some (.box (K1 22) (.d y.dv)), some (.box (K1 22) (.d x.dv))], r)) := by
 have hm := mxl
 rw [loop_rounds z (fun i _ => ⟨[(5, .d (I i)), (3, .p 0 0 0), (2, .p 1 0 0)], [some (.box (K1 22) (.d y.dv)), some (.box (K1 22) (.d x.dv))]⟩) (fun _ _ => True) (fun i _ p c => if AEntry.beq p.1 p.2 = true then c () else r) (fun _ => k (.exit 0) [(51, .d (.b false)), (5, .d (I z.length)), (3, .p 0 0 0), (2, .p 1 0 0)] [some (.box (K1 22) (.d y.dv)), some (.box (K1 22) (.d x.dv))]) ?_ ?_ h0 trivial]
 ·rw [rounds_all (fun p => AEntry.beq p.1 p.2) r]
  ·cases z.all fun p => AEntry.beq p.1 p.2 <;> rfl
  ·exact fun _ _ _ _ => rfl
 ·intro B _ _ _
  simp [L97_0, hx]
 ·intro B _ i _ hi _ c hc
  have h1 : (i : Int) < z.length := by omega
  have h3 := wr1 (i := i) (by omega)
  have he := hv z[i] (List.getElem_mem hi)
  simp [L97_0, h1, hi, he, hx, hy]
  repeat' (refine brn_split (fun h => ?_) (fun h => ?_) <;> (try simp at h) <;> (try simp [h, h3]))
  all_goals first
   | exact hr _ _ (by simp [Fr.get]) (by simp [ghosts, gh])
   | exact hc () _ _ trivial (by simp [gc, Fr.keep, reach, frRefs, heapRefs, PV.refs, place, gcH, orefs, Obj.refs, PV.ren, Obj.ren, Heap.obj, Fr.ren, gh, List.idxOf?_cons])
theorem lp97_1 (T : Tab) (x y : ABooks) (z : List (AHold × AHold)) (hx : x.Holds.l = z.map Prod.fst) (hy : y.Holds.l = z.map Prod.snd) (hn : z.length ≤ maxLen) {k : KC (PV × Bool)} {r : Option (PV × Bool)} {fr : Fr} {H : Heap} (hr : RetF 4 k r) (h0 : gc [2, 3, 6] 0 ⟨fr, H⟩ = ⟨[(6, .d (I 0)), (3, .p 0 0 0), (2, .p 1 0 0)], [some (.box (K1 22) (.d y.dv)), some (.box (K1 22) (.d x.dv))]⟩) :
  kC T.env 0 fr H (.h (.loop [2, 3, 6] L97_1, k)) = brn (z.all fun p => AHold.beq p.1 p.2) (.h (k (.exit 2) [(70, .d (.b false)), (6, .d (I z.length)), (3, .p 0 0 0), (2, .p 1 0 0)] [some (.box (K1 22) (.d y.dv)), some (.box (K1 22) (.d x.dv))], r)) := by
 have hm := mxl
 rw [loop_rounds z (fun i _ => ⟨[(6, .d (I i)), (3, .p 0 0 0), (2, .p 1 0 0)], [some (.box (K1 22) (.d y.dv)), some (.box (K1 22) (.d x.dv))]⟩) (fun _ _ => True) (fun i _ p c => if AHold.beq p.1 p.2 = true then c () else r) (fun _ => k (.exit 2) [(70, .d (.b false)), (6, .d (I z.length)), (3, .p 0 0 0), (2, .p 1 0 0)] [some (.box (K1 22) (.d y.dv)), some (.box (K1 22) (.d x.dv))]) ?_ ?_ h0 trivial]
 ·rw [rounds_all (fun p => AHold.beq p.1 p.2) r]
  ·cases z.all fun p => AHold.beq p.1 p.2 <;> rfl
  ·exact fun _ _ _ _ => rfl
 ·intro B _ _ _
  simp [L97_1, hx]
 ·intro B _ i _ hi _ c hc
  have h1 : (i : Int) < z.length := by omega
  have h3 := wr1 (i := i) (by omega)
  have he : eqA [1, 1, 1, 1, 1, 3] (.d (AHold.dv z[i].1)) (.d (AHold.dv z[i].2)) = some (AHold.beq z[i].1 z[i].2) := by
   simp [eqA, eqL, eqK, AHold.dv, AHold.beq, ibq, sbq, Bool.and_assoc]
  simp [L97_1, h1, hi, he, hx, hy]
  repeat' (refine brn_split (fun h => ?_) (fun h => ?_) <;> (try simp at h) <;> (try simp [h, h3]))
  all_goals first
   | exact hr _ _ (by simp [Fr.get]) (by simp [ghosts, gh])
   | exact hc () _ _ trivial (by simp [gc, Fr.keep, reach, frRefs, heapRefs, PV.refs, place, gcH, orefs, Obj.refs, PV.ren, Obj.ren, Heap.obj, Fr.ren, gh, List.idxOf?_cons])
theorem lp97_2 (T : Tab) (x y : ABooks) (z : List (ABlock × ABlock)) (hx : x.Blocks.l = z.map Prod.fst) (hy : y.Blocks.l = z.map Prod.snd) (hn : z.length ≤ maxLen) {k : KC (PV × Bool)} {r : Option (PV × Bool)} {fr : Fr} {H : Heap} (hr : RetF 4 k r) (h0 : gc [2, 3, 7] 0 ⟨fr, H⟩ = ⟨[(7, .d (I 0)), (3, .p 0 0 0), (2, .p 1 0 0)], [some (.box (K1 22) (.d y.dv)), some (.box (K1 22) (.d x.dv))]⟩) :
  kC T.env 0 fr H (.h (.loop [2, 3, 7] L97_2, k)) = brn (z.all fun p => ABlock.beq p.1 p.2) (.h (k (.exit 4) [(88, .d (.b false)), (7, .d (I z.length)), (3, .p 0 0 0), (2, .p 1 0 0)] [some (.box (K1 22) (.d y.dv)), some (.box (K1 22) (.d x.dv))], r)) := by
 have hm := mxl
 rw [loop_rounds z (fun i _ => ⟨[(7, .d (I i)), (3, .p 0 0 0), (2, .p 1 0 0)], [some (.box (K1 22) (.d y.dv)), some (.box (K1 22) (.d x.dv))]⟩) (fun _ _ => True) (fun i _ p c => if ABlock.beq p.1 p.2 = true then c () else r) (fun _ => k (.exit 4) [(88, .d (.b false)), (7, .d (I z.length)), (3, .p 0 0 0), (2, .p 1 0 0)] [some (.box (K1 22) (.d y.dv)), some (.box (K1 22) (.d x.dv))]) ?_ ?_ h0 trivial]
 ·rw [rounds_all (fun p => ABlock.beq p.1 p.2) r]
  ·cases z.all fun p => ABlock.beq p.1 p.2 <;> rfl
  ·exact fun _ _ _ _ => rfl
 ·intro B _ _ _
  simp [L97_2, hx]
 ·intro B _ i _ hi _ c hc
  have h1 : (i : Int) < z.length := by omega
  have h3 := wr1 (i := i) (by omega)
  have he : eqA [1, 1, 1, 1, 1, 1, 3] (.d (ABlock.dv z[i].1)) (.d (ABlock.dv z[i].2)) = some (ABlock.beq z[i].1 z[i].2) := by
   simp [eqA, eqL, eqK, ABlock.dv, ABlock.beq, ibq, sbq, Bool.and_assoc]
  simp [L97_2, h1, hi, he, hx, hy]
  repeat' (refine brn_split (fun h => ?_) (fun h => ?_) <;> (try simp at h) <;> (try simp [h, h3]))
  all_goals first
   | exact hr _ _ (by simp [Fr.get]) (by simp [ghosts, gh])
   | exact hc () _ _ trivial (by simp [gc, Fr.keep, reach, frRefs, heapRefs, PV.refs, place, gcH, orefs, Obj.refs, PV.ren, Obj.ren, Heap.obj, Fr.ren, gh, List.idxOf?_cons])
theorem lp98_0 (T : Tab) (x y : ABank) (z : List (ALoan × ALoan)) (hx : x.Loans.l = z.map Prod.fst) (hy : y.Loans.l = z.map Prod.snd) (hv : ∀ p ∈ z, T.val 81 [ALoan.dv p.1, ALoan.dv p.2] = some (.d (.b (ALoan.beq p.1 p.2)), false)) (hn : z.length ≤ maxLen) {k : KC (PV × Bool)} {r : Option (PV × Bool)} {fr : Fr} {H : Heap} (hr : RetF 4 k r) (h0 : gc [2, 3, 5] 0 ⟨fr, H⟩ = ⟨[(5, .d (I 0)), (3, .p 0 0 0), (2, .p 1 0 0)], [some (.box (K1 42) (.d y.dv)), some (.box (K1 42) (.d x.dv))]⟩) :
  kC T.env 0 fr H (.h (.loop [2, 3, 5] L98_0, k)) = brn (z.all fun p => ALoan.beq p.1 p.2) (.h (k (.exit 0) [(35, .d (.b false)), (5, .d (I z.length)), (3, .p 0 0 0), (2, .p 1 0 0)] [some (.box (K1 42) (.d y.dv)), some (.box (K1 42) (.d x.dv))], r)) := by
 have hm := mxl
 rw [loop_rounds z (fun i _ => ⟨[(5, .d (I i)), (3, .p 0 0 0), (2, .p 1 0 0)], [some (.box (K1 42) (.d y.dv)), some (.box (K1 42) (.d x.dv))]⟩) (fun _ _ => True) (fun i _ p c => if ALoan.beq p.1 p.2 = true then c () else r) (fun _ => k (.exit 0) [(35, .d (.b false)), (5, .d (I z.length)), (3, .p 0 0 0), (2, .p 1 0 0)] [some (.box (K1 42) (.d y.dv)), some (.box (K1 42) (.d x.dv))]) ?_ ?_ h0 trivial]
 ·rw [rounds_all (fun p => ALoan.beq p.1 p.2) r]
  ·cases z.all fun p => ALoan.beq p.1 p.2 <;> rfl
  ·exact fun _ _ _ _ => rfl
 ·intro B _ _ _
  simp [L98_0, hx]
 ·intro B _ i _ hi _ c hc
  have h1 : (i : Int) < z.length := by omega
  have h3 := wr1 (i := i) (by omega)
  have he := hv z[i] (List.getElem_mem hi)
  simp [L98_0, h1, hi, he, hx, hy]
  repeat' (refine brn_split (fun h => ?_) (fun h => ?_) <;> (try simp at h) <;> (try simp [h, h3]))
  all_goals first
   | exact hr _ _ (by simp [Fr.get]) (by simp [ghosts, gh])
   | exact hc () _ _ trivial (by simp [gc, Fr.keep, reach, frRefs, heapRefs, PV.refs, place, gcH, orefs, Obj.refs, PV.ren, Obj.ren, Heap.obj, Fr.ren, gh, List.idxOf?_cons])
theorem lp98_1 (T : Tab) (x y : ABank) (z : List (AStatement × AStatement)) (hx : x.Statements.l = z.map Prod.fst) (hy : y.Statements.l = z.map Prod.snd) (hv : ∀ p ∈ z, T.val 142 [AStatement.dv p.1, AStatement.dv p.2] = some (.d (.b (AStatement.beq p.1 p.2)), false)) (hn : z.length ≤ maxLen) {k : KC (PV × Bool)} {r : Option (PV × Bool)} {fr : Fr} {H : Heap} (hr : RetF 4 k r) (h0 : gc [2, 3, 6] 0 ⟨fr, H⟩ = ⟨[(6, .d (I 0)), (3, .p 0 0 0), (2, .p 1 0 0)], [some (.box (K1 42) (.d y.dv)), some (.box (K1 42) (.d x.dv))]⟩) :
  kC T.env 0 fr H (.h (.loop [2, 3, 6] L98_1, k)) = brn (z.all fun p => AStatement.beq p.1 p.2) (.h (k (.exit 2) [(54, .d (.b false)), (6, .d (I z.length)), (3, .p 0 0 0), (2, .p 1 0 0)] [some (.box (K1 42) (.d y.dv)), some (.box (K1 42) (.d x.dv))], r)) := by
 have hm := mxl
 rw [loop_rounds z (fun i _ => ⟨[(6, .d (I i)), (3, .p 0 0 0), (2, .p 1 0 0)], [some (.box (K1 42) (.d y.dv)), some (.box (K1 42) (.d x.dv))]⟩) (fun _ _ => True) (fun i _ p c => if AStatement.beq p.1 p.2 = true then c () else r) (fun _ => k (.exit 2) [(54, .d (.b false)), (6, .d (I z.length)), (3, .p 0 0 0), (2, .p 1 0 0)] [some (.box (K1 42) (.d y.dv)), some (.box (K1 42) (.d x.dv))]) ?_ ?_ h0 trivial]
 ·rw [rounds_all (fun p => AStatement.beq p.1 p.2) r]
  ·cases z.all fun p => AStatement.beq p.1 p.2 <;> rfl
  ·exact fun _ _ _ _ => rfl
 ·intro B _ _ _
  simp [L98_1, hx]
 ·intro B _ i _ hi _ c hc
  have h1 : (i : Int) < z.length := by omega
  have h3 := wr1 (i := i) (by omega)
  have he := hv z[i] (List.getElem_mem hi)
  simp [L98_1, h1, hi, he, hx, hy]
  repeat' (refine brn_split (fun h => ?_) (fun h => ?_) <;> (try simp at h) <;> (try simp [h, h3]))
  all_goals first
   | exact hr _ _ (by simp [Fr.get]) (by simp [ghosts, gh])
   | exact hc () _ _ trivial (by simp [gc, Fr.keep, reach, frRefs, heapRefs, PV.refs, place, gcH, orefs, Obj.refs, PV.ren, Obj.ren, Heap.obj, Fr.ren, gh, List.idxOf?_cons])
theorem lp99_0 (T : Tab) (x y : ABank) (z : List (AUser × AUser)) (hx : x.Users.l = z.map Prod.fst) (hy : y.Users.l = z.map Prod.snd) (hn : z.length ≤ maxLen) {k : KC (PV × Bool)} {r : Option (PV × Bool)} {fr : Fr} {H : Heap} (hr : RetF 4 k r) (h0 : gc [2, 3, 5] 0 ⟨fr, H⟩ = ⟨[(5, .d (I 0)), (3, .p 0 0 0), (2, .p 1 0 0)], [some (.box (K1 42) (.d y.dv)), some (.box (K1 42) (.d x.dv))]⟩) :
  kC T.env 0 fr H (.h (.loop [2, 3, 5] L99_0, k)) = brn (z.all fun p => AUser.beq p.1 p.2) (.h (k (.exit 0) [(71, .d (.b false)), (5, .d (I z.length)), (3, .p 0 0 0), (2, .p 1 0 0)] [some (.box (K1 42) (.d y.dv)), some (.box (K1 42) (.d x.dv))], r)) := by
 have hm := mxl
 rw [loop_rounds z (fun i _ => ⟨[(5, .d (I i)), (3, .p 0 0 0), (2, .p 1 0 0)], [some (.box (K1 42) (.d y.dv)), some (.box (K1 42) (.d x.dv))]⟩) (fun _ _ => True) (fun i _ p c => if AUser.beq p.1 p.2 = true then c () else r) (fun _ => k (.exit 0) [(71, .d (.b false)), (5, .d (I z.length)), (3, .p 0 0 0), (2, .p 1 0 0)] [some (.box (K1 42) (.d y.dv)), some (.box (K1 42) (.d x.dv))]) ?_ ?_ h0 trivial]
 ·rw [rounds_all (fun p => AUser.beq p.1 p.2) r]
  ·cases z.all fun p => AUser.beq p.1 p.2 <;> rfl
  ·exact fun _ _ _ _ => rfl
 ·intro B _ _ _
  simp [L99_0, hx]
 ·intro B _ i _ hi _ c hc
  have h1 : (i : Int) < z.length := by omega
  have h3 := wr1 (i := i) (by omega)
  have he : eqA [3, 1, 1] (.d (AUser.dv z[i].1)) (.d (AUser.dv z[i].2)) = some (AUser.beq z[i].1 z[i].2) := by
   simp [eqA, eqL, eqK, AUser.dv, AUser.beq, ibq, sbq, Bool.and_assoc]
  simp [L99_0, h1, hi, he, hx, hy]
  repeat' (refine brn_split (fun h => ?_) (fun h => ?_) <;> (try simp at h) <;> (try simp [h, h3]))
  all_goals first
   | exact hr _ _ (by simp [Fr.get]) (by simp [ghosts, gh])
   | exact hc () _ _ trivial (by simp [gc, Fr.keep, reach, frRefs, heapRefs, PV.refs, place, gcH, orefs, Obj.refs, PV.ren, Obj.ren, Heap.obj, Fr.ren, gh, List.idxOf?_cons])
theorem lp99_2 (T : Tab) (x y : ABank) (z : List (AAvail × AAvail)) (hx : x.Night.Avail.l = z.map Prod.fst) (hy : y.Night.Avail.l = z.map Prod.snd) (hn : z.length ≤ maxLen) {k : KC (PV × Bool)} {r : Option (PV × Bool)} {fr : Fr} {H : Heap} (hr : RetF 4 k r) (h0 : gc [2, 3, 9] 0 ⟨fr, H⟩ = ⟨[(9, .d (I 0)), (3, .p 0 0 0), (2, .p 1 0 0)], [some (.box (K1 42) (.d y.dv)), some (.box (K1 42) (.d x.dv))]⟩) :
  kC T.env 0 fr H (.h (.loop [2, 3, 9] L99_2, k)) = brn (z.all fun p => AAvail.beq p.1 p.2) (.h (k (.exit 4) [(155, .d (.b false)), (9, .d (I z.length)), (3, .p 0 0 0), (2, .p 1 0 0)] [some (.box (K1 42) (.d y.dv)), some (.box (K1 42) (.d x.dv))], r)) := by
 have hm := mxl
 rw [loop_rounds z (fun i _ => ⟨[(9, .d (I i)), (3, .p 0 0 0), (2, .p 1 0 0)], [some (.box (K1 42) (.d y.dv)), some (.box (K1 42) (.d x.dv))]⟩) (fun _ _ => True) (fun i _ p c => if AAvail.beq p.1 p.2 = true then c () else r) (fun _ => k (.exit 4) [(155, .d (.b false)), (9, .d (I z.length)), (3, .p 0 0 0), (2, .p 1 0 0)] [some (.box (K1 42) (.d y.dv)), some (.box (K1 42) (.d x.dv))]) ?_ ?_ h0 trivial]
 ·rw [rounds_all (fun p => AAvail.beq p.1 p.2) r]
  ·cases z.all fun p => AAvail.beq p.1 p.2 <;> rfl
  ·exact fun _ _ _ _ => rfl
 ·intro B _ _ _
  simp [L99_2, hx]
 ·intro B _ i _ hi _ c hc
  have h1 : (i : Int) < z.length := by omega
  have h3 := wr1 (i := i) (by omega)
  have he : eqA [1, 1, 1] (.d (AAvail.dv z[i].1)) (.d (AAvail.dv z[i].2)) = some (AAvail.beq z[i].1 z[i].2) := by
   simp [eqA, eqL, eqK, AAvail.dv, AAvail.beq, ibq, Bool.and_assoc]
  simp [L99_2, h1, hi, he, hx, hy]
  repeat' (refine brn_split (fun h => ?_) (fun h => ?_) <;> (try simp at h) <;> (try simp [h, h3]))
  all_goals first
   | exact hr _ _ (by simp [Fr.get]) (by simp [ghosts, gh])
   | exact hc () _ _ trivial (by simp [gc, Fr.keep, reach, frRefs, heapRefs, PV.refs, place, gcH, orefs, Obj.refs, PV.ren, Obj.ren, Heap.obj, Fr.ren, gh, List.idxOf?_cons])
theorem lp99_3 (T : Tab) (x y : ABank) (z : List (AWait × AWait)) (hx : x.Night.Queue.l = z.map Prod.fst) (hy : y.Night.Queue.l = z.map Prod.snd) (hn : z.length ≤ maxLen) {k : KC (PV × Bool)} {r : Option (PV × Bool)} {fr : Fr} {H : Heap} (hr : RetF 4 k r) (h0 : gc [2, 3, 10] 0 ⟨fr, H⟩ = ⟨[(10, .d (I 0)), (3, .p 0 0 0), (2, .p 1 0 0)], [some (.box (K1 42) (.d y.dv)), some (.box (K1 42) (.d x.dv))]⟩) :
  kC T.env 0 fr H (.h (.loop [2, 3, 10] L99_3, k)) = brn (z.all fun p => AWait.beq p.1 p.2) (.h (k (.exit 6) [(176, .d (.b false)), (10, .d (I z.length)), (3, .p 0 0 0), (2, .p 1 0 0)] [some (.box (K1 42) (.d y.dv)), some (.box (K1 42) (.d x.dv))], r)) := by
 have hm := mxl
 rw [loop_rounds z (fun i _ => ⟨[(10, .d (I i)), (3, .p 0 0 0), (2, .p 1 0 0)], [some (.box (K1 42) (.d y.dv)), some (.box (K1 42) (.d x.dv))]⟩) (fun _ _ => True) (fun i _ p c => if AWait.beq p.1 p.2 = true then c () else r) (fun _ => k (.exit 6) [(176, .d (.b false)), (10, .d (I z.length)), (3, .p 0 0 0), (2, .p 1 0 0)] [some (.box (K1 42) (.d y.dv)), some (.box (K1 42) (.d x.dv))]) ?_ ?_ h0 trivial]
 ·rw [rounds_all (fun p => AWait.beq p.1 p.2) r]
  ·cases z.all fun p => AWait.beq p.1 p.2 <;> rfl
  ·exact fun _ _ _ _ => rfl
 ·intro B _ _ _
  simp [L99_3, hx]
 ·intro B _ i _ hi _ c hc
  have h1 : (i : Int) < z.length := by omega
  have h3 := wr1 (i := i) (by omega)
  have he : eqA [1, 1, 3] (.d (AWait.dv z[i].1)) (.d (AWait.dv z[i].2)) = some (AWait.beq z[i].1 z[i].2) := by
   simp [eqA, eqL, eqK, AWait.dv, AWait.beq, ibq, sbq, Bool.and_assoc]
  simp [L99_3, h1, hi, he, hx, hy]
  repeat' (refine brn_split (fun h => ?_) (fun h => ?_) <;> (try simp at h) <;> (try simp [h, h3]))
  all_goals first
   | exact hr _ _ (by simp [Fr.get]) (by simp [ghosts, gh])
   | exact hc () _ _ trivial (by simp [gc, Fr.keep, reach, frRefs, heapRefs, PV.refs, place, gcH, orefs, Obj.refs, PV.ren, Obj.ren, Heap.obj, Fr.ren, gh, List.idxOf?_cons])
theorem lp139_0 (T : Tab) (x y : ABooks) (z : List (ACurrency × ACurrency)) (hx : x.Currencies.l = z.map Prod.fst) (hy : y.Currencies.l = z.map Prod.snd) (hn : z.length ≤ maxLen) {k : KC (PV × Bool)} {r : Option (PV × Bool)} {fr : Fr} {H : Heap} (hr : RetF 4 k r) (h0 : gc [2, 3, 5] 0 ⟨fr, H⟩ = ⟨[(5, .d (I 0)), (3, .p 0 0 0), (2, .p 1 0 0)], [some (.box (K1 22) (.d y.dv)), some (.box (K1 22) (.d x.dv))]⟩) :
  kC T.env 0 fr H (.h (.loop [2, 3, 5] L139_0, k)) = brn (z.all fun p => ACurrency.beq p.1 p.2) (.h (k (.exit 0) [(52, .d (.b false)), (5, .d (I z.length)), (3, .p 0 0 0), (2, .p 1 0 0)] [some (.box (K1 22) (.d y.dv)), some (.box (K1 22) (.d x.dv))], r)) := by
 have hm := mxl
 rw [loop_rounds z (fun i _ => ⟨[(5, .d (I i)), (3, .p 0 0 0), (2, .p 1 0 0)], [some (.box (K1 22) (.d y.dv)), some (.box (K1 22) (.d x.dv))]⟩) (fun _ _ => True) (fun i _ p c => if ACurrency.beq p.1 p.2 = true then c () else r) (fun _ => k (.exit 0) [(52, .d (.b false)), (5, .d (I z.length)), (3, .p 0 0 0), (2, .p 1 0 0)] [some (.box (K1 22) (.d y.dv)), some (.box (K1 22) (.d x.dv))]) ?_ ?_ h0 trivial]
 ·rw [rounds_all (fun p => ACurrency.beq p.1 p.2) r]
  ·cases z.all fun p => ACurrency.beq p.1 p.2 <;> rfl
  ·exact fun _ _ _ _ => rfl
 ·intro B _ _ _
  simp [L139_0, hx]
 ·intro B _ i _ hi _ c hc
  have h1 : (i : Int) < z.length := by omega
  have h3 := wr1 (i := i) (by omega)
  have he : eqA [3, 1] (.d (ACurrency.dv z[i].1)) (.d (ACurrency.dv z[i].2)) = some (ACurrency.beq z[i].1 z[i].2) := by
   simp [eqA, eqL, eqK, ACurrency.dv, ACurrency.beq, ibq, sbq]
  simp [L139_0, h1, hi, he, hx, hy]
  repeat' (refine brn_split (fun h => ?_) (fun h => ?_) <;> (try simp at h) <;> (try simp [h, h3]))
  all_goals first
   | exact hr _ _ (by simp [Fr.get]) (by simp [ghosts, gh])
   | exact hc () _ _ trivial (by simp [gc, Fr.keep, reach, frRefs, heapRefs, PV.refs, place, gcH, orefs, Obj.refs, PV.ren, Obj.ren, Heap.obj, Fr.ren, gh, List.idxOf?_cons])
theorem lp139_1 (T : Tab) (x y : ABooks) (z : List (AGl × AGl)) (hx : x.Chart.l = z.map Prod.fst) (hy : y.Chart.l = z.map Prod.snd) (hn : z.length ≤ maxLen) {k : KC (PV × Bool)} {r : Option (PV × Bool)} {fr : Fr} {H : Heap} (hr : RetF 4 k r) (h0 : gc [2, 3, 6] 0 ⟨fr, H⟩ = ⟨[(6, .d (I 0)), (3, .p 0 0 0), (2, .p 1 0 0)], [some (.box (K1 22) (.d y.dv)), some (.box (K1 22) (.d x.dv))]⟩) :
  kC T.env 0 fr H (.h (.loop [2, 3, 6] L139_1, k)) = brn (z.all fun p => AGl.beq p.1 p.2) (.h (k (.exit 2) [(70, .d (.b false)), (6, .d (I z.length)), (3, .p 0 0 0), (2, .p 1 0 0)] [some (.box (K1 22) (.d y.dv)), some (.box (K1 22) (.d x.dv))], r)) := by
 have hm := mxl
 rw [loop_rounds z (fun i _ => ⟨[(6, .d (I i)), (3, .p 0 0 0), (2, .p 1 0 0)], [some (.box (K1 22) (.d y.dv)), some (.box (K1 22) (.d x.dv))]⟩) (fun _ _ => True) (fun i _ p c => if AGl.beq p.1 p.2 = true then c () else r) (fun _ => k (.exit 2) [(70, .d (.b false)), (6, .d (I z.length)), (3, .p 0 0 0), (2, .p 1 0 0)] [some (.box (K1 22) (.d y.dv)), some (.box (K1 22) (.d x.dv))]) ?_ ?_ h0 trivial]
 ·rw [rounds_all (fun p => AGl.beq p.1 p.2) r]
  ·cases z.all fun p => AGl.beq p.1 p.2 <;> rfl
  ·exact fun _ _ _ _ => rfl
 ·intro B _ _ _
  simp [L139_1, hx]
 ·intro B _ i _ hi _ c hc
  have h1 : (i : Int) < z.length := by omega
  have h3 := wr1 (i := i) (by omega)
  have he : eqA [1, 1, 1, 3] (.d (AGl.dv z[i].1)) (.d (AGl.dv z[i].2)) = some (AGl.beq z[i].1 z[i].2) := by
   simp [eqA, eqL, eqK, AGl.dv, AGl.beq, ibq, sbq, Bool.and_assoc]
  simp [L139_1, h1, hi, he, hx, hy]
  repeat' (refine brn_split (fun h => ?_) (fun h => ?_) <;> (try simp at h) <;> (try simp [h, h3]))
  all_goals first
   | exact hr _ _ (by simp [Fr.get]) (by simp [ghosts, gh])
   | exact hc () _ _ trivial (by simp [gc, Fr.keep, reach, frRefs, heapRefs, PV.refs, place, gcH, orefs, Obj.refs, PV.ren, Obj.ren, Heap.obj, Fr.ren, gh, List.idxOf?_cons])
theorem lp139_2 (T : Tab) (x y : ABooks) (z : List (AProduct × AProduct)) (hx : x.Products.l = z.map Prod.fst) (hy : y.Products.l = z.map Prod.snd) (hv : ∀ p ∈ z, T.val 224 [AProduct.dv p.1, AProduct.dv p.2] = some (.d (.b (AProduct.beq p.1 p.2)), false)) (hn : z.length ≤ maxLen) {k : KC (PV × Bool)} {r : Option (PV × Bool)} {fr : Fr} {H : Heap} (hr : RetF 4 k r) (h0 : gc [2, 3, 7] 0 ⟨fr, H⟩ = ⟨[(7, .d (I 0)), (3, .p 0 0 0), (2, .p 1 0 0)], [some (.box (K1 22) (.d y.dv)), some (.box (K1 22) (.d x.dv))]⟩) :
  kC T.env 0 fr H (.h (.loop [2, 3, 7] L139_2, k)) = brn (z.all fun p => AProduct.beq p.1 p.2) (.h (k (.exit 4) [(88, .d (.b false)), (7, .d (I z.length)), (3, .p 0 0 0), (2, .p 1 0 0)] [some (.box (K1 22) (.d y.dv)), some (.box (K1 22) (.d x.dv))], r)) := by
 have hm := mxl
 rw [loop_rounds z (fun i _ => ⟨[(7, .d (I i)), (3, .p 0 0 0), (2, .p 1 0 0)], [some (.box (K1 22) (.d y.dv)), some (.box (K1 22) (.d x.dv))]⟩) (fun _ _ => True) (fun i _ p c => if AProduct.beq p.1 p.2 = true then c () else r) (fun _ => k (.exit 4) [(88, .d (.b false)), (7, .d (I z.length)), (3, .p 0 0 0), (2, .p 1 0 0)] [some (.box (K1 22) (.d y.dv)), some (.box (K1 22) (.d x.dv))]) ?_ ?_ h0 trivial]
 ·rw [rounds_all (fun p => AProduct.beq p.1 p.2) r]
  ·cases z.all fun p => AProduct.beq p.1 p.2 <;> rfl
  ·exact fun _ _ _ _ => rfl
 ·intro B _ _ _
  simp [L139_2, hx]
 ·intro B _ i _ hi _ c hc
  have h1 : (i : Int) < z.length := by omega
  have h3 := wr1 (i := i) (by omega)
  have he := hv z[i] (List.getElem_mem hi)
  simp [L139_2, h1, hi, he, hx, hy]
  repeat' (refine brn_split (fun h => ?_) (fun h => ?_) <;> (try simp at h) <;> (try simp [h, h3]))
  all_goals first
   | exact hr _ _ (by simp [Fr.get]) (by simp [ghosts, gh])
   | exact hc () _ _ trivial (by simp [gc, Fr.keep, reach, frRefs, heapRefs, PV.refs, place, gcH, orefs, Obj.refs, PV.ren, Obj.ren, Heap.obj, Fr.ren, gh, List.idxOf?_cons])
theorem lp140_0 (T : Tab) (z : List (AAccount × AAccount)) (s t : Bool) (hn : z.length ≤ maxLen) {k : KC (PV × Bool)} {r : Option (PV × Bool)} {fr : Fr} {H : Heap} (hr : RetF 4 k r) (h0 : gc [0, 1, 5] 0 ⟨fr, H⟩ = ⟨[(5, .d (I 0)), (1, .d (.l (K1 7) ((z.map Prod.snd).map AAccount.dv) t)), (0, .d (.l (K1 7) ((z.map Prod.fst).map AAccount.dv) s))], []⟩) :
  kC T.env 0 fr H (.h (.loop [0, 1, 5] L140_0, k)) = brn (z.all fun p => AAccount.beq p.1 p.2) (.h (k (.exit 0) [(14, .d (.b false)), (5, .d (I z.length)), (1, .d (.l (K1 7) ((z.map Prod.snd).map AAccount.dv) t)), (0, .d (.l (K1 7) ((z.map Prod.fst).map AAccount.dv) s))] [], r)) := by
 have hm := mxl
 rw [loop_rounds z (fun i _ => ⟨[(5, .d (I i)), (1, .d (.l (K1 7) ((z.map Prod.snd).map AAccount.dv) t)), (0, .d (.l (K1 7) ((z.map Prod.fst).map AAccount.dv) s))], []⟩) (fun _ _ => True) (fun i _ p c => if AAccount.beq p.1 p.2 = true then c () else r) (fun _ => k (.exit 0) [(14, .d (.b false)), (5, .d (I z.length)), (1, .d (.l (K1 7) ((z.map Prod.snd).map AAccount.dv) t)), (0, .d (.l (K1 7) ((z.map Prod.fst).map AAccount.dv) s))] []) ?_ ?_ h0 trivial]
 ·rw [rounds_all (fun p => AAccount.beq p.1 p.2) r]
  ·cases z.all fun p => AAccount.beq p.1 p.2 <;> rfl
  ·exact fun _ _ _ _ => rfl
 ·intro B _ _ _
  simp [L140_0]
 ·intro B _ i _ hi _ c hc
  have h1 : (i : Int) < z.length := by omega
  have h3 := wr1 (i := i) (by omega)
  have he : eqA [1, 1, 1, 1, 3, 3, 3] (.d (AAccount.dv z[i].1)) (.d (AAccount.dv z[i].2)) = some (AAccount.beq z[i].1 z[i].2) := by
   simp [eqA, eqL, eqK, AAccount.dv, AAccount.beq, ibq, sbq, Bool.and_assoc]
  simp [L140_0, h1, hi, he]
  repeat' (refine brn_split (fun h => ?_) (fun h => ?_) <;> (try simp at h) <;> (try simp [h, h3]))
  all_goals first
   | exact hr _ _ (by simp [Fr.get]) (by simp [ghosts, gh])
   | exact hc () _ _ trivial (by simp [gc, Fr.keep, reach, frRefs, heapRefs, PV.refs, gcH, PV.ren, Obj.ren, Heap.obj, Fr.ren, gh])
theorem lp141_0 (T : Tab) (z : List (APeriod × APeriod)) (s t : Bool) (hn : z.length ≤ maxLen) {k : KC (PV × Bool)} {r : Option (PV × Bool)} {fr : Fr} {H : Heap} (hr : RetF 4 k r) (h0 : gc [0, 1, 5] 0 ⟨fr, H⟩ = ⟨[(5, .d (I 0)), (1, .d (.l (K1 11) ((z.map Prod.snd).map APeriod.dv) t)), (0, .d (.l (K1 11) ((z.map Prod.fst).map APeriod.dv) s))], []⟩) :
  kC T.env 0 fr H (.h (.loop [0, 1, 5] L141_0, k)) = brn (z.all fun p => APeriod.beq p.1 p.2) (.h (k (.exit 0) [(14, .d (.b false)), (5, .d (I z.length)), (1, .d (.l (K1 11) ((z.map Prod.snd).map APeriod.dv) t)), (0, .d (.l (K1 11) ((z.map Prod.fst).map APeriod.dv) s))] [], r)) := by
 have hm := mxl
 rw [loop_rounds z (fun i _ => ⟨[(5, .d (I i)), (1, .d (.l (K1 11) ((z.map Prod.snd).map APeriod.dv) t)), (0, .d (.l (K1 11) ((z.map Prod.fst).map APeriod.dv) s))], []⟩) (fun _ _ => True) (fun i _ p c => if APeriod.beq p.1 p.2 = true then c () else r) (fun _ => k (.exit 0) [(14, .d (.b false)), (5, .d (I z.length)), (1, .d (.l (K1 11) ((z.map Prod.snd).map APeriod.dv) t)), (0, .d (.l (K1 11) ((z.map Prod.fst).map APeriod.dv) s))] []) ?_ ?_ h0 trivial]
 ·rw [rounds_all (fun p => APeriod.beq p.1 p.2) r]
  ·cases z.all fun p => APeriod.beq p.1 p.2 <;> rfl
  ·exact fun _ _ _ _ => rfl
 ·intro B _ _ _
  simp [L141_0]
 ·intro B _ i _ hi _ c hc
  have h1 : (i : Int) < z.length := by omega
  have h3 := wr1 (i := i) (by omega)
  have he : eqA [1, 1, 1, 1, 1, 1, 1, 1, 1, 1, 1] (.d (APeriod.dv z[i].1)) (.d (APeriod.dv z[i].2)) = some (APeriod.beq z[i].1 z[i].2) := by
   simp [eqA, eqL, eqK, APeriod.dv, APeriod.beq, AWide.beq, ibq, Bool.and_assoc]
  simp [L141_0, h1, hi, he]
  repeat' (refine brn_split (fun h => ?_) (fun h => ?_) <;> (try simp at h) <;> (try simp [h, h3]))
  all_goals first
   | exact hr _ _ (by simp [Fr.get]) (by simp [ghosts, gh])
   | exact hc () _ _ trivial (by simp [gc, Fr.keep, reach, frRefs, heapRefs, PV.refs, gcH, PV.ren, Obj.ren, Heap.obj, Fr.ren, gh])
theorem lp142_0 (T : Tab) (x y : AStatement) (z : List (APosting × APosting)) (hx : x.Lines.l = z.map Prod.fst) (hy : y.Lines.l = z.map Prod.snd) (hn : z.length ≤ maxLen) {k : KC (PV × Bool)} {r : Option (PV × Bool)} {fr : Fr} {H : Heap} (hr : RetF 4 k r) (h0 : gc [2, 3, 5] 0 ⟨fr, H⟩ = ⟨[(5, .d (I 0)), (3, .p 0 0 0), (2, .p 1 0 0)], [some (.box (K1 7) (.d y.dv)), some (.box (K1 7) (.d x.dv))]⟩) :
  kC T.env 0 fr H (.h (.loop [2, 3, 5] L142_0, k)) = brn (z.all fun p => APosting.beq p.1 p.2) (.h (k (.exit 0) [(59, .d (.b false)), (5, .d (I z.length)), (3, .p 0 0 0), (2, .p 1 0 0)] [some (.box (K1 7) (.d y.dv)), some (.box (K1 7) (.d x.dv))], r)) := by
 have hm := mxl
 rw [loop_rounds z (fun i _ => ⟨[(5, .d (I i)), (3, .p 0 0 0), (2, .p 1 0 0)], [some (.box (K1 7) (.d y.dv)), some (.box (K1 7) (.d x.dv))]⟩) (fun _ _ => True) (fun i _ p c => if APosting.beq p.1 p.2 = true then c () else r) (fun _ => k (.exit 0) [(59, .d (.b false)), (5, .d (I z.length)), (3, .p 0 0 0), (2, .p 1 0 0)] [some (.box (K1 7) (.d y.dv)), some (.box (K1 7) (.d x.dv))]) ?_ ?_ h0 trivial]
 ·rw [rounds_all (fun p => APosting.beq p.1 p.2) r]
  ·cases z.all fun p => APosting.beq p.1 p.2 <;> rfl
  ·exact fun _ _ _ _ => rfl
 ·intro B _ _ _
  simp [L142_0, hx]
 ·intro B _ i _ hi _ c hc
  have h1 : (i : Int) < z.length := by omega
  have h3 := wr1 (i := i) (by omega)
  have he : eqA [1, 1, 1, 3] (.d (APosting.dv z[i].1)) (.d (APosting.dv z[i].2)) = some (APosting.beq z[i].1 z[i].2) := by
   simp [eqA, eqL, eqK, APosting.dv, APosting.beq, ibq, sbq, Bool.and_assoc]
  simp [L142_0, h1, hi, he, hx, hy]
  repeat' (refine brn_split (fun h => ?_) (fun h => ?_) <;> (try simp at h) <;> (try simp [h, h3]))
  all_goals first
   | exact hr _ _ (by simp [Fr.get]) (by simp [ghosts, gh])
   | exact hc () _ _ trivial (by simp [gc, Fr.keep, reach, frRefs, heapRefs, PV.refs, place, gcH, orefs, Obj.refs, PV.ren, Obj.ren, Heap.obj, Fr.ren, gh, List.idxOf?_cons])
theorem lp143_0 (T : Tab) (x y : ABank) (z : List (AOrder × AOrder)) (hx : x.Orders.l = z.map Prod.fst) (hy : y.Orders.l = z.map Prod.snd) (hn : z.length ≤ maxLen) {k : KC (PV × Bool)} {r : Option (PV × Bool)} {fr : Fr} {H : Heap} (hr : RetF 4 k r) (h0 : gc [2, 3, 5] 0 ⟨fr, H⟩ = ⟨[(5, .d (I 0)), (3, .p 0 0 0), (2, .p 1 0 0)], [some (.box (K1 42) (.d y.dv)), some (.box (K1 42) (.d x.dv))]⟩) :
  kC T.env 0 fr H (.h (.loop [2, 3, 5] L143_0, k)) = brn (z.all fun p => AOrder.beq p.1 p.2) (.h (k (.exit 0) [(47, .d (.b false)), (5, .d (I z.length)), (3, .p 0 0 0), (2, .p 1 0 0)] [some (.box (K1 42) (.d y.dv)), some (.box (K1 42) (.d x.dv))], r)) := by
 have hm := mxl
 rw [loop_rounds z (fun i _ => ⟨[(5, .d (I i)), (3, .p 0 0 0), (2, .p 1 0 0)], [some (.box (K1 42) (.d y.dv)), some (.box (K1 42) (.d x.dv))]⟩) (fun _ _ => True) (fun i _ p c => if AOrder.beq p.1 p.2 = true then c () else r) (fun _ => k (.exit 0) [(47, .d (.b false)), (5, .d (I z.length)), (3, .p 0 0 0), (2, .p 1 0 0)] [some (.box (K1 42) (.d y.dv)), some (.box (K1 42) (.d x.dv))]) ?_ ?_ h0 trivial]
 ·rw [rounds_all (fun p => AOrder.beq p.1 p.2) r]
  ·cases z.all fun p => AOrder.beq p.1 p.2 <;> rfl
  ·exact fun _ _ _ _ => rfl
 ·intro B _ _ _
  simp [L143_0, hx]
 ·intro B _ i _ hi _ c hc
  have h1 : (i : Int) < z.length := by omega
  have h3 := wr1 (i := i) (by omega)
  have he : eqA [1, 1, 1, 1, 1, 1, 1, 1, 1, 3] (.d (AOrder.dv z[i].1)) (.d (AOrder.dv z[i].2)) = some (AOrder.beq z[i].1 z[i].2) := by
   simp [eqA, eqL, eqK, AOrder.dv, AOrder.beq, ibq, sbq, Bool.and_assoc]
  simp [L143_0, h1, hi, he, hx, hy]
  repeat' (refine brn_split (fun h => ?_) (fun h => ?_) <;> (try simp at h) <;> (try simp [h, h3]))
  all_goals first
   | exact hr _ _ (by simp [Fr.get]) (by simp [ghosts, gh])
   | exact hc () _ _ trivial (by simp [gc, Fr.keep, reach, frRefs, heapRefs, PV.refs, place, gcH, orefs, Obj.refs, PV.ren, Obj.ren, Heap.obj, Fr.ren, gh, List.idxOf?_cons])
theorem lp143_1 (T : Tab) (x y : ABank) (z : List (AMandate × AMandate)) (hx : x.Mandates.l = z.map Prod.fst) (hy : y.Mandates.l = z.map Prod.snd) (hn : z.length ≤ maxLen) {k : KC (PV × Bool)} {r : Option (PV × Bool)} {fr : Fr} {H : Heap} (hr : RetF 4 k r) (h0 : gc [2, 3, 6] 0 ⟨fr, H⟩ = ⟨[(6, .d (I 0)), (3, .p 0 0 0), (2, .p 1 0 0)], [some (.box (K1 42) (.d y.dv)), some (.box (K1 42) (.d x.dv))]⟩) :
  kC T.env 0 fr H (.h (.loop [2, 3, 6] L143_1, k)) = brn (z.all fun p => AMandate.beq p.1 p.2) (.h (k (.exit 2) [(65, .d (.b false)), (6, .d (I z.length)), (3, .p 0 0 0), (2, .p 1 0 0)] [some (.box (K1 42) (.d y.dv)), some (.box (K1 42) (.d x.dv))], r)) := by
 have hm := mxl
 rw [loop_rounds z (fun i _ => ⟨[(6, .d (I i)), (3, .p 0 0 0), (2, .p 1 0 0)], [some (.box (K1 42) (.d y.dv)), some (.box (K1 42) (.d x.dv))]⟩) (fun _ _ => True) (fun i _ p c => if AMandate.beq p.1 p.2 = true then c () else r) (fun _ => k (.exit 2) [(65, .d (.b false)), (6, .d (I z.length)), (3, .p 0 0 0), (2, .p 1 0 0)] [some (.box (K1 42) (.d y.dv)), some (.box (K1 42) (.d x.dv))]) ?_ ?_ h0 trivial]
 ·rw [rounds_all (fun p => AMandate.beq p.1 p.2) r]
  ·cases z.all fun p => AMandate.beq p.1 p.2 <;> rfl
  ·exact fun _ _ _ _ => rfl
 ·intro B _ _ _
  simp [L143_1, hx]
 ·intro B _ i _ hi _ c hc
  have h1 : (i : Int) < z.length := by omega
  have h3 := wr1 (i := i) (by omega)
  have he : eqA [1, 1, 1, 1, 1, 1, 3] (.d (AMandate.dv z[i].1)) (.d (AMandate.dv z[i].2)) = some (AMandate.beq z[i].1 z[i].2) := by
   simp [eqA, eqL, eqK, AMandate.dv, AMandate.beq, ibq, sbq, Bool.and_assoc]
  simp [L143_1, h1, hi, he, hx, hy]
  repeat' (refine brn_split (fun h => ?_) (fun h => ?_) <;> (try simp at h) <;> (try simp [h, h3]))
  all_goals first
   | exact hr _ _ (by simp [Fr.get]) (by simp [ghosts, gh])
   | exact hc () _ _ trivial (by simp [gc, Fr.keep, reach, frRefs, heapRefs, PV.refs, place, gcH, orefs, Obj.refs, PV.ren, Obj.ren, Heap.obj, Fr.ren, gh, List.idxOf?_cons])
theorem lp143_2 (T : Tab) (x y : ABank) (z : List (ADebit × ADebit)) (hx : x.Debits.l = z.map Prod.fst) (hy : y.Debits.l = z.map Prod.snd) (hn : z.length ≤ maxLen) {k : KC (PV × Bool)} {r : Option (PV × Bool)} {fr : Fr} {H : Heap} (hr : RetF 4 k r) (h0 : gc [2, 3, 7] 0 ⟨fr, H⟩ = ⟨[(7, .d (I 0)), (3, .p 0 0 0), (2, .p 1 0 0)], [some (.box (K1 42) (.d y.dv)), some (.box (K1 42) (.d x.dv))]⟩) :
  kC T.env 0 fr H (.h (.loop [2, 3, 7] L143_2, k)) = brn (z.all fun p => ADebit.beq p.1 p.2) (.h (k (.exit 4) [(83, .d (.b false)), (7, .d (I z.length)), (3, .p 0 0 0), (2, .p 1 0 0)] [some (.box (K1 42) (.d y.dv)), some (.box (K1 42) (.d x.dv))], r)) := by
 have hm := mxl
 rw [loop_rounds z (fun i _ => ⟨[(7, .d (I i)), (3, .p 0 0 0), (2, .p 1 0 0)], [some (.box (K1 42) (.d y.dv)), some (.box (K1 42) (.d x.dv))]⟩) (fun _ _ => True) (fun i _ p c => if ADebit.beq p.1 p.2 = true then c () else r) (fun _ => k (.exit 4) [(83, .d (.b false)), (7, .d (I z.length)), (3, .p 0 0 0), (2, .p 1 0 0)] [some (.box (K1 42) (.d y.dv)), some (.box (K1 42) (.d x.dv))]) ?_ ?_ h0 trivial]
 ·rw [rounds_all (fun p => ADebit.beq p.1 p.2) r]
  ·cases z.all fun p => ADebit.beq p.1 p.2 <;> rfl
  ·exact fun _ _ _ _ => rfl
 ·intro B _ _ _
  simp [L143_2, hx]
 ·intro B _ i _ hi _ c hc
  have h1 : (i : Int) < z.length := by omega
  have h3 := wr1 (i := i) (by omega)
  have he : eqA [1, 1, 1, 1, 1, 1, 1, 1, 3] (.d (ADebit.dv z[i].1)) (.d (ADebit.dv z[i].2)) = some (ADebit.beq z[i].1 z[i].2) := by
   simp [eqA, eqL, eqK, ADebit.dv, ADebit.beq, ibq, sbq, Bool.and_assoc]
  simp [L143_2, h1, hi, he, hx, hy]
  repeat' (refine brn_split (fun h => ?_) (fun h => ?_) <;> (try simp at h) <;> (try simp [h, h3]))
  all_goals first
   | exact hr _ _ (by simp [Fr.get]) (by simp [ghosts, gh])
   | exact hc () _ _ trivial (by simp [gc, Fr.keep, reach, frRefs, heapRefs, PV.refs, place, gcH, orefs, Obj.refs, PV.ren, Obj.ren, Heap.obj, Fr.ren, gh, List.idxOf?_cons])
theorem lp143_3 (T : Tab) (x y : ABank) (z : List (AMessage × AMessage)) (hx : x.Inbox.l = z.map Prod.fst) (hy : y.Inbox.l = z.map Prod.snd) (hn : z.length ≤ maxLen) {k : KC (PV × Bool)} {r : Option (PV × Bool)} {fr : Fr} {H : Heap} (hr : RetF 4 k r) (h0 : gc [2, 3, 8] 0 ⟨fr, H⟩ = ⟨[(8, .d (I 0)), (3, .p 0 0 0), (2, .p 1 0 0)], [some (.box (K1 42) (.d y.dv)), some (.box (K1 42) (.d x.dv))]⟩) :
  kC T.env 0 fr H (.h (.loop [2, 3, 8] L143_3, k)) = brn (z.all fun p => AMessage.beq p.1 p.2) (.h (k (.exit 6) [(101, .d (.b false)), (8, .d (I z.length)), (3, .p 0 0 0), (2, .p 1 0 0)] [some (.box (K1 42) (.d y.dv)), some (.box (K1 42) (.d x.dv))], r)) := by
 have hm := mxl
 rw [loop_rounds z (fun i _ => ⟨[(8, .d (I i)), (3, .p 0 0 0), (2, .p 1 0 0)], [some (.box (K1 42) (.d y.dv)), some (.box (K1 42) (.d x.dv))]⟩) (fun _ _ => True) (fun i _ p c => if AMessage.beq p.1 p.2 = true then c () else r) (fun _ => k (.exit 6) [(101, .d (.b false)), (8, .d (I z.length)), (3, .p 0 0 0), (2, .p 1 0 0)] [some (.box (K1 42) (.d y.dv)), some (.box (K1 42) (.d x.dv))]) ?_ ?_ h0 trivial]
 ·rw [rounds_all (fun p => AMessage.beq p.1 p.2) r]
  ·cases z.all fun p => AMessage.beq p.1 p.2 <;> rfl
  ·exact fun _ _ _ _ => rfl
 ·intro B _ _ _
  simp [L143_3, hx]
 ·intro B _ i _ hi _ c hc
  have h1 : (i : Int) < z.length := by omega
  have h3 := wr1 (i := i) (by omega)
  have he : eqA [3, 1, 1, 1, 1, 1, 3] (.d (AMessage.dv z[i].1)) (.d (AMessage.dv z[i].2)) = some (AMessage.beq z[i].1 z[i].2) := by
   simp [eqA, eqL, eqK, AMessage.dv, AMessage.beq, ibq, sbq, Bool.and_assoc]
  simp [L143_3, h1, hi, he, hx, hy]
  repeat' (refine brn_split (fun h => ?_) (fun h => ?_) <;> (try simp at h) <;> (try simp [h, h3]))
  all_goals first
   | exact hr _ _ (by simp [Fr.get]) (by simp [ghosts, gh])
   | exact hc () _ _ trivial (by simp [gc, Fr.keep, reach, frRefs, heapRefs, PV.refs, place, gcH, orefs, Obj.refs, PV.ren, Obj.ren, Heap.obj, Fr.ren, gh, List.idxOf?_cons])
theorem lp144_0 (T : Tab) (x y : ACommand) (z : List (Int × Int)) (hx : x.Crashes.l = z.map Prod.fst) (hy : y.Crashes.l = z.map Prod.snd) (hn : z.length ≤ maxLen) {k : KC (PV × Bool)} {r : Option (PV × Bool)} {fr : Fr} {H : Heap} (hr : RetF 4 k r) (h0 : gc [2, 3, 5] 0 ⟨fr, H⟩ = ⟨[(5, .d (I 0)), (3, .p 0 0 0), (2, .p 1 0 0)], [some (.box (K1 29) (.d y.dv)), some (.box (K1 29) (.d x.dv))]⟩) :
  kC T.env 0 fr H (.h (.loop [2, 3, 5] L144_0, k)) = brn (z.all fun p => ibq p.1 p.2) (.h (k (.exit 0) [(92, .d (.b false)), (5, .d (I z.length)), (3, .p 0 0 0), (2, .p 1 0 0)] [some (.box (K1 29) (.d y.dv)), some (.box (K1 29) (.d x.dv))], r)) := by
 have hm := mxl
 rw [loop_rounds z (fun i _ => ⟨[(5, .d (I i)), (3, .p 0 0 0), (2, .p 1 0 0)], [some (.box (K1 29) (.d y.dv)), some (.box (K1 29) (.d x.dv))]⟩) (fun _ _ => True) (fun i _ p c => if ibq p.1 p.2 = true then c () else r) (fun _ => k (.exit 0) [(92, .d (.b false)), (5, .d (I z.length)), (3, .p 0 0 0), (2, .p 1 0 0)] [some (.box (K1 29) (.d y.dv)), some (.box (K1 29) (.d x.dv))]) ?_ ?_ h0 trivial]
 ·rw [rounds_all (fun p => ibq p.1 p.2) r]
  ·cases z.all fun p => ibq p.1 p.2 <;> rfl
  ·exact fun _ _ _ _ => rfl
 ·intro B _ _ _
  simp [L144_0, hx]
 ·intro B _ i _ hi _ c hc
  have h1 : (i : Int) < z.length := by omega
  have h3 := wr1 (i := i) (by omega)
  simp [L144_0, h1, hi, ibq, hx, hy]
  repeat' (refine brn_split (fun h => ?_) (fun h => ?_) <;> (try simp at h) <;> (try simp [h, h3]))
  all_goals first
   | exact hr _ _ (by simp [Fr.get]) (by simp [ghosts, gh])
   | exact hc () _ _ trivial (by simp [gc, Fr.keep, reach, frRefs, heapRefs, PV.refs, place, gcH, orefs, Obj.refs, PV.ren, Obj.ren, Heap.obj, Fr.ren, gh, List.idxOf?_cons])
theorem lp145_0 (T : Tab) (z : List (AMark × AMark)) (s t : Bool) (hn : z.length ≤ maxLen) {k : KC (PV × Bool)} {r : Option (PV × Bool)} {fr : Fr} {H : Heap} (hr : RetF 4 k r) (h0 : gc [0, 1, 5] 0 ⟨fr, H⟩ = ⟨[(5, .d (I 0)), (1, .d (.l (K1 5) ((z.map Prod.snd).map AMark.dv) t)), (0, .d (.l (K1 5) ((z.map Prod.fst).map AMark.dv) s))], []⟩) :
  kC T.env 0 fr H (.h (.loop [0, 1, 5] L145_0, k)) = brn (z.all fun p => AMark.beq p.1 p.2) (.h (k (.exit 0) [(14, .d (.b false)), (5, .d (I z.length)), (1, .d (.l (K1 5) ((z.map Prod.snd).map AMark.dv) t)), (0, .d (.l (K1 5) ((z.map Prod.fst).map AMark.dv) s))] [], r)) := by
 have hm := mxl
 rw [loop_rounds z (fun i _ => ⟨[(5, .d (I i)), (1, .d (.l (K1 5) ((z.map Prod.snd).map AMark.dv) t)), (0, .d (.l (K1 5) ((z.map Prod.fst).map AMark.dv) s))], []⟩) (fun _ _ => True) (fun i _ p c => if AMark.beq p.1 p.2 = true then c () else r) (fun _ => k (.exit 0) [(14, .d (.b false)), (5, .d (I z.length)), (1, .d (.l (K1 5) ((z.map Prod.snd).map AMark.dv) t)), (0, .d (.l (K1 5) ((z.map Prod.fst).map AMark.dv) s))] []) ?_ ?_ h0 trivial]
 ·rw [rounds_all (fun p => AMark.beq p.1 p.2) r]
  ·cases z.all fun p => AMark.beq p.1 p.2 <;> rfl
  ·exact fun _ _ _ _ => rfl
 ·intro B _ _ _
  simp [L145_0]
 ·intro B _ i _ hi _ c hc
  have h1 : (i : Int) < z.length := by omega
  have h3 := wr1 (i := i) (by omega)
  have he : eqA [1, 3, 3, 3, 1] (.d (AMark.dv z[i].1)) (.d (AMark.dv z[i].2)) = some (AMark.beq z[i].1 z[i].2) := by
   simp [eqA, eqL, eqK, AMark.dv, AMark.beq, ibq, sbq, Bool.and_assoc]
  simp [L145_0, h1, hi, he]
  repeat' (refine brn_split (fun h => ?_) (fun h => ?_) <;> (try simp at h) <;> (try simp [h, h3]))
  all_goals first
   | exact hr _ _ (by simp [Fr.get]) (by simp [ghosts, gh])
   | exact hc () _ _ trivial (by simp [gc, Fr.keep, reach, frRefs, heapRefs, PV.refs, gcH, PV.ren, Obj.ren, Heap.obj, Fr.ren, gh])
theorem lp300_0 (T : Tab) (z : List (Int × Int)) (s t : Bool) (hn : z.length ≤ maxLen) {k : KC (PV × Bool)} {r : Option (PV × Bool)} {fr : Fr} {H : Heap} (hr : RetF 4 k r) (h0 : gc [0, 1, 5] 0 ⟨fr, H⟩ = ⟨[(5, .d (I 0)), (1, .d (.l K0 ((z.map Prod.snd).map I) t)), (0, .d (.l K0 ((z.map Prod.fst).map I) s))], []⟩) :
  kC T.env 0 fr H (.h (.loop [0, 1, 5] L300_0, k)) = brn (z.all fun p => ibq p.1 p.2) (.h (k (.exit 0) [(14, .d (.b false)), (5, .d (I z.length)), (1, .d (.l K0 ((z.map Prod.snd).map I) t)), (0, .d (.l K0 ((z.map Prod.fst).map I) s))] [], r)) := by
 have hm := mxl
 rw [loop_rounds z (fun i _ => ⟨[(5, .d (I i)), (1, .d (.l K0 ((z.map Prod.snd).map I) t)), (0, .d (.l K0 ((z.map Prod.fst).map I) s))], []⟩) (fun _ _ => True) (fun i _ p c => if ibq p.1 p.2 = true then c () else r) (fun _ => k (.exit 0) [(14, .d (.b false)), (5, .d (I z.length)), (1, .d (.l K0 ((z.map Prod.snd).map I) t)), (0, .d (.l K0 ((z.map Prod.fst).map I) s))] []) ?_ ?_ h0 trivial]
 ·rw [rounds_all (fun p => ibq p.1 p.2) r]
  ·cases z.all fun p => ibq p.1 p.2 <;> rfl
  ·exact fun _ _ _ _ => rfl
 ·intro B _ _ _
  simp [L300_0]
 ·intro B _ i _ hi _ c hc
  have h1 : (i : Int) < z.length := by omega
  have h3 := wr1 (i := i) (by omega)
  simp [L300_0, h1, hi, ibq]
  repeat' (refine brn_split (fun h => ?_) (fun h => ?_) <;> (try simp at h) <;> (try simp [h, h3]))
  all_goals first
   | exact hr _ _ (by simp [Fr.get]) (by simp [ghosts, gh])
   | exact hc () _ _ trivial (by simp [gc, Fr.keep, reach, frRefs, heapRefs, PV.refs, gcH, PV.ren, Obj.ren, Heap.obj, Fr.ren, gh])
theorem lp301_0 (T : Tab) (x y : AInterest) (z : List (ATier × ATier)) (hx : x.Tiers.l = z.map Prod.fst) (hy : y.Tiers.l = z.map Prod.snd) (hn : z.length ≤ maxLen) {k : KC (PV × Bool)} {r : Option (PV × Bool)} {fr : Fr} {H : Heap} (hr : RetF 4 k r) (h0 : gc [2, 3, 5] 0 ⟨fr, H⟩ = ⟨[(5, .d (I 0)), (3, .p 0 0 0), (2, .p 1 0 0)], [some (.box (K1 5) (.d y.dv)), some (.box (K1 5) (.d x.dv))]⟩) :
  kC T.env 0 fr H (.h (.loop [2, 3, 5] L301_0, k)) = brn (z.all fun p => ATier.beq p.1 p.2) (.h (k (.exit 0) [(45, .d (.b false)), (5, .d (I z.length)), (3, .p 0 0 0), (2, .p 1 0 0)] [some (.box (K1 5) (.d y.dv)), some (.box (K1 5) (.d x.dv))], r)) := by
 have hm := mxl
 rw [loop_rounds z (fun i _ => ⟨[(5, .d (I i)), (3, .p 0 0 0), (2, .p 1 0 0)], [some (.box (K1 5) (.d y.dv)), some (.box (K1 5) (.d x.dv))]⟩) (fun _ _ => True) (fun i _ p c => if ATier.beq p.1 p.2 = true then c () else r) (fun _ => k (.exit 0) [(45, .d (.b false)), (5, .d (I z.length)), (3, .p 0 0 0), (2, .p 1 0 0)] [some (.box (K1 5) (.d y.dv)), some (.box (K1 5) (.d x.dv))]) ?_ ?_ h0 trivial]
 ·rw [rounds_all (fun p => ATier.beq p.1 p.2) r]
  ·cases z.all fun p => ATier.beq p.1 p.2 <;> rfl
  ·exact fun _ _ _ _ => rfl
 ·intro B _ _ _
  simp [L301_0, hx]
 ·intro B _ i _ hi _ c hc
  have h1 : (i : Int) < z.length := by omega
  have h3 := wr1 (i := i) (by omega)
  have he : eqA [1, 1] (.d (ATier.dv z[i].1)) (.d (ATier.dv z[i].2)) = some (ATier.beq z[i].1 z[i].2) := by
   simp [eqA, eqL, eqK, ATier.dv, ATier.beq, ibq]
  simp [L301_0, h1, hi, he, hx, hy]
  repeat' (refine brn_split (fun h => ?_) (fun h => ?_) <;> (try simp at h) <;> (try simp [h, h3]))
  all_goals first
   | exact hr _ _ (by simp [Fr.get]) (by simp [ghosts, gh])
   | exact hc () _ _ trivial (by simp [gc, Fr.keep, reach, frRefs, heapRefs, PV.refs, place, gcH, orefs, Obj.refs, PV.ren, Obj.ren, Heap.obj, Fr.ren, gh, List.idxOf?_cons])
theorem lp14_0 (T : Tab) (z : List (ALeg × ALeg)) (s t : Bool) (hn : z.length ≤ maxLen) {k : KC (PV × Bool)} {r : Option (PV × Bool)} {fr : Fr} {H : Heap} (hr : RetF 4 k r) (h0 : gc [0, 1, 5] 0 ⟨fr, H⟩ = ⟨[(5, .d (I 0)), (1, .d (.l (K1 3) ((z.map Prod.snd).map ALeg.dv) t)), (0, .d (.l (K1 3) ((z.map Prod.fst).map ALeg.dv) s))], []⟩) :
  kC T.env 0 fr H (.h (.loop [0, 1, 5] L14_0, k)) = brn (z.all fun p => ALeg.beq p.1 p.2) (.h (k (.exit 0) [(14, .d (.b false)), (5, .d (I z.length)), (1, .d (.l (K1 3) ((z.map Prod.snd).map ALeg.dv) t)), (0, .d (.l (K1 3) ((z.map Prod.fst).map ALeg.dv) s))] [], r)) := by
 have hm := mxl
 rw [loop_rounds z (fun i _ => ⟨[(5, .d (I i)), (1, .d (.l (K1 3) ((z.map Prod.snd).map ALeg.dv) t)), (0, .d (.l (K1 3) ((z.map Prod.fst).map ALeg.dv) s))], []⟩) (fun _ _ => True) (fun i _ p c => if ALeg.beq p.1 p.2 = true then c () else r) (fun _ => k (.exit 0) [(14, .d (.b false)), (5, .d (I z.length)), (1, .d (.l (K1 3) ((z.map Prod.snd).map ALeg.dv) t)), (0, .d (.l (K1 3) ((z.map Prod.fst).map ALeg.dv) s))] []) ?_ ?_ h0 trivial]
 ·rw [rounds_all (fun p => ALeg.beq p.1 p.2) r]
  ·cases z.all fun p => ALeg.beq p.1 p.2 <;> rfl
  ·exact fun _ _ _ _ => rfl
 ·intro B _ _ _
  simp [L14_0]
 ·intro B _ i _ hi _ c hc
  have h1 : (i : Int) < z.length := by omega
  have h3 := wr1 (i := i) (by omega)
  have he : eqA [1, 1, 3] (.d (ALeg.dv z[i].1)) (.d (ALeg.dv z[i].2)) = some (ALeg.beq z[i].1 z[i].2) := by
   simp [eqA, eqL, eqK, ALeg.dv, ALeg.beq, ibq, sbq, Bool.and_assoc]
  simp [L14_0, h1, hi, he]
  repeat' (refine brn_split (fun h => ?_) (fun h => ?_) <;> (try simp at h) <;> (try simp [h, h3]))
  all_goals first
   | exact hr _ _ (by simp [Fr.get]) (by simp [ghosts, gh])
   | exact hc () _ _ trivial (by simp [gc, Fr.keep, reach, frRefs, heapRefs, PV.refs, gcH, PV.ren, Obj.ren, Heap.obj, Fr.ren, gh])
end Go.Sim
end
section
namespace Go.Sim
set_option maxRecDepth 10000
theorem val14 (T : Tab) (hF : T.F 14 = some F14) (x y : List ALeg) (s t : Bool) (hn : x.length ≤ maxLen) : T.val 14 [.l (K1 3) (x.map ALeg.dv) s, .l (K1 3) (y.map ALeg.dv) t] = some (.d (.b (lsb ALeg.beq x y)), false) := by
 rw [val_k T hF rfl]
 by_cases hl : x.length = y.length
 ·obtain ⟨z, rfl, rfl⟩ := zip_of x y hl
  rw [lsb_zip]
  have hz : z.length ≤ maxLen := by simpa using hn
  have lp := fun k fr H => @lp14_0 T z s t hz k (some (.d (.b false), false)) fr H
  simp [F14, Fr.ofArgs]
  rw [lp]
  ·refine brn_split (fun h => ?_) (fun h => ?_)
   ·simp [h]
   ·rw [h]
  ·simp [RetF_bl, RetF_sq, RetF_fin]
  ·simp [gc, Fr.keep, reach, frRefs, heapRefs, PV.refs, gcH, PV.ren, Obj.ren, Heap.obj, Fr.ren, gh]
 ·rw [lsb_len _ _ hl]
  have hl' : ((x.length : Int) == (y.length : Int)) = false := by simp; omega
  simp [F14, Fr.ofArgs, hl', bne]
theorem val95 (T : Tab) (hF : T.F 95 = some F95) (x y : List ADue) (s t : Bool) (hn : x.length ≤ maxLen) : T.val 95 [.l (K1 4) (x.map ADue.dv) s, .l (K1 4) (y.map ADue.dv) t] = some (.d (.b (lsb ADue.beq x y)), false) := by
 rw [val_k T hF rfl]
 by_cases hl : x.length = y.length
 ·obtain ⟨z, rfl, rfl⟩ := zip_of x y hl
  rw [lsb_zip]
  have hz : z.length ≤ maxLen := by simpa using hn
  have lp := fun k fr H => @lp95_0 T z s t hz k (some (.d (.b false), false)) fr H
  simp [F95, Fr.ofArgs]
  rw [lp]
  ·refine brn_split (fun h => ?_) (fun h => ?_)
   ·simp [h]
   ·rw [h]
  ·simp [RetF_bl, RetF_sq, RetF_fin]
  ·simp [gc, Fr.keep, reach, frRefs, heapRefs, PV.refs, gcH, PV.ren, Obj.ren, Heap.obj, Fr.ren, gh]
 ·rw [lsb_len _ _ hl]
  have hl' : ((x.length : Int) == (y.length : Int)) = false := by simp; omega
  simp [F95, Fr.ofArgs, hl', bne]
theorem val96 (T : Tab) (hF : T.F 96 = some F96) (x y : List AChange) (s t : Bool) (hn : x.length ≤ maxLen) : T.val 96 [.l (K1 14) (x.map AChange.dv) s, .l (K1 14) (y.map AChange.dv) t] = some (.d (.b (lsb AChange.beq x y)), false) := by
 rw [val_k T hF rfl]
 by_cases hl : x.length = y.length
 ·obtain ⟨z, rfl, rfl⟩ := zip_of x y hl
  rw [lsb_zip]
  have hz : z.length ≤ maxLen := by simpa using hn
  have lp := fun k fr H => @lp96_0 T z s t hz k (some (.d (.b false), false)) fr H
  simp [F96, Fr.ofArgs]
  rw [lp]
  ·refine brn_split (fun h => ?_) (fun h => ?_)
   ·simp [h]
   ·rw [h]
  ·simp [RetF_bl, RetF_sq, RetF_fin]
  ·simp [gc, Fr.keep, reach, frRefs, heapRefs, PV.refs, gcH, PV.ren, Obj.ren, Heap.obj, Fr.ren, gh]
 ·rw [lsb_len _ _ hl]
  have hl' : ((x.length : Int) == (y.length : Int)) = false := by simp; omega
  simp [F96, Fr.ofArgs, hl', bne]
theorem val140 (T : Tab) (hF : T.F 140 = some F140) (x y : List AAccount) (s t : Bool) (hn : x.length ≤ maxLen) : T.val 140 [.l (K1 7) (x.map AAccount.dv) s, .l (K1 7) (y.map AAccount.dv) t] = some (.d (.b (lsb AAccount.beq x y)), false) := by
 rw [val_k T hF rfl]
 by_cases hl : x.length = y.length
 ·obtain ⟨z, rfl, rfl⟩ := zip_of x y hl
  rw [lsb_zip]
  have hz : z.length ≤ maxLen := by simpa using hn
  have lp := fun k fr H => @lp140_0 T z s t hz k (some (.d (.b false), false)) fr H
  simp [F140, Fr.ofArgs]
  rw [lp]
  ·refine brn_split (fun h => ?_) (fun h => ?_)
   ·simp [h]
   ·rw [h]
  ·simp [RetF_bl, RetF_sq, RetF_fin]
  ·simp [gc, Fr.keep, reach, frRefs, heapRefs, PV.refs, gcH, PV.ren, Obj.ren, Heap.obj, Fr.ren, gh]
 ·rw [lsb_len _ _ hl]
  have hl' : ((x.length : Int) == (y.length : Int)) = false := by simp; omega
  simp [F140, Fr.ofArgs, hl', bne]
theorem val141 (T : Tab) (hF : T.F 141 = some F141) (x y : List APeriod) (s t : Bool) (hn : x.length ≤ maxLen) : T.val 141 [.l (K1 11) (x.map APeriod.dv) s, .l (K1 11) (y.map APeriod.dv) t] = some (.d (.b (lsb APeriod.beq x y)), false) := by
 rw [val_k T hF rfl]
 by_cases hl : x.length = y.length
 ·obtain ⟨z, rfl, rfl⟩ := zip_of x y hl
  rw [lsb_zip]
  have hz : z.length ≤ maxLen := by simpa using hn
  have lp := fun k fr H => @lp141_0 T z s t hz k (some (.d (.b false), false)) fr H
  simp [F141, Fr.ofArgs]
  rw [lp]
  ·refine brn_split (fun h => ?_) (fun h => ?_)
   ·simp [h]
   ·rw [h]
  ·simp [RetF_bl, RetF_sq, RetF_fin]
  ·simp [gc, Fr.keep, reach, frRefs, heapRefs, PV.refs, gcH, PV.ren, Obj.ren, Heap.obj, Fr.ren, gh]
 ·rw [lsb_len _ _ hl]
  have hl' : ((x.length : Int) == (y.length : Int)) = false := by simp; omega
  simp [F141, Fr.ofArgs, hl', bne]
theorem val145 (T : Tab) (hF : T.F 145 = some F145) (x y : List AMark) (s t : Bool) (hn : x.length ≤ maxLen) : T.val 145 [.l (K1 5) (x.map AMark.dv) s, .l (K1 5) (y.map AMark.dv) t] = some (.d (.b (lsb AMark.beq x y)), false) := by
 rw [val_k T hF rfl]
 by_cases hl : x.length = y.length
 ·obtain ⟨z, rfl, rfl⟩ := zip_of x y hl
  rw [lsb_zip]
  have hz : z.length ≤ maxLen := by simpa using hn
  have lp := fun k fr H => @lp145_0 T z s t hz k (some (.d (.b false), false)) fr H
  simp [F145, Fr.ofArgs]
  rw [lp]
  ·refine brn_split (fun h => ?_) (fun h => ?_)
   ·simp [h]
   ·rw [h]
  ·simp [RetF_bl, RetF_sq, RetF_fin]
  ·simp [gc, Fr.keep, reach, frRefs, heapRefs, PV.refs, gcH, PV.ren, Obj.ren, Heap.obj, Fr.ren, gh]
 ·rw [lsb_len _ _ hl]
  have hl' : ((x.length : Int) == (y.length : Int)) = false := by simp; omega
  simp [F145, Fr.ofArgs, hl', bne]
theorem val300 (T : Tab) (hF : T.F 300 = some F300) (x y : List Int) (s t : Bool) (hn : x.length ≤ maxLen) : T.val 300 [.l K0 (x.map I) s, .l K0 (y.map I) t] = some (.d (.b (lsb ibq x y)), false) := by
 rw [val_k T hF rfl]
 by_cases hl : x.length = y.length
 ·obtain ⟨z, rfl, rfl⟩ := zip_of x y hl
  rw [lsb_zip]
  have hz : z.length ≤ maxLen := by simpa using hn
  have lp := fun k fr H => @lp300_0 T z s t hz k (some (.d (.b false), false)) fr H
  simp [F300, Fr.ofArgs]
  rw [lp]
  ·refine brn_split (fun h => ?_) (fun h => ?_)
   ·simp [h]
   ·rw [h]
  ·simp [RetF_bl, RetF_sq, RetF_fin]
  ·simp [gc, Fr.keep, reach, frRefs, heapRefs, PV.refs, gcH, PV.ren, Obj.ren, Heap.obj, Fr.ren, gh]
 ·rw [lsb_len _ _ hl]
  have hl' : ((x.length : Int) == (y.length : Int)) = false := by simp; omega
  simp [F300, Fr.ofArgs, hl', bne]
end Go.Sim
end
end
section
namespace Go.Sim
def tabC : PT :=
 (.bin 141 F141 (.bin 96 F96 (.bin 81 F81 (.bin 14 F14 (.bin 9 F9 .nil .nil) .nil) (.bin 95 F95 (.bin 82 F82 .nil .nil) .nil)) (.bin 99 F99 (.bin 98 F98 (.bin 97 F97 .nil .nil) .nil) (.bin 140 F140 (.bin 139 F139 .nil .nil) .nil))) (.bin 224 F224 (.bin 144 F144 (.bin 143 F143 (.bin 142 F142 .nil .nil) .nil) (.bin 223 F223 (.bin 145 F145 .nil .nil) .nil)) (.bin 302 F302 (.bin 301 F301 (.bin 300 F300 .nil .nil) .nil) (.bin 303 F303 .nil .nil))))
end Go.Sim
end
section
open Go.Sim
attribute [local simp ↓] kC_skip kC_ret kC_exit kC_seq kC_block kC_reg kC_cond kC_condc sqK blK lpK kO_nil kO_O kO_E kO_OG kO_EG grd_b grd_t tst_b brn_true brn_false brn_not chk_T b_mov b_pick b_alloc b_box b_load b_store b_bin b_un b_eqv b_faddr b_field b_iaddr b_sl b_len b_app b_call b_call1 b_callR b_ext bo_some bo_none bo2_some bo2_none bo_iaddr bo_addS bo_quo bo_rem bo_bnd bo_bnd0 ld_q0 ld_qw ld_p subP0 subPw bo_moveP bo_moveQ bo_lenl bo_lens bo_lenr bo_add bo_sub bo_mul bo_eql bo_neq bo_lss bo_leq bo_gtr bo_geq bo_neg bo_not bo_eqS bo_neS grd_nb b_slS slSK_s extK_t ownL_l fin_ret fin_norm bo_res0 bo_rest bo_resc st_p stK_box b_callv callvK_f0 callvK_f1 mkf_b subPs ld_qs kC_regS0 kC_regS1 kC_regS2 kC_regS3 kC_regS4 kC_regS5 b_eqb eqbK_b
attribute [local simp] K_refl obj_0 obj_s get_c get_n drop_c drop_n set_c set_n fix_c fix_n rd IOp.adds nadds gh nid rgK rdS ghosts_c ghosts_n packed1 packed2 purT_b purT_i purT_s purT_a purT_lt purT_lf K_ss K_ns K_sn plains_n plains_c env_val env_ref purs_n purs_d put_0 put_s
section
namespace Go.Sim
set_option maxRecDepth 10000
set_option maxHeartbeats 4000000
theorem ax_of {e : DV} (h : XE e) : ∃ a : AExpr, e = a.dv ∧ a.ok := by
 cases h with
 | mk o n s a h1 h2 h3 h4 =>
  cases h4 with
  | mk es h5 h6 h7 => exact ⟨⟨o, n, s, ⟨es, false⟩⟩, rfl, h1, h2, h3, .mk es h5 h6 h7⟩
theorem axs_of {es : List DV} {t : Bool} (h : XL (.l (K1 4) es t)) : es.length ≤ maxLen ∧ ∃ l : List AExpr, es = l.map AExpr.dv ∧ ∀ a ∈ l, a.ok := by
 cases h with
 | mk _ h5 h6 => exact ⟨h5, list_of' fun e he => ax_of (h6 e he)⟩
theorem deq_dv (x y : AExpr) : deq x.dv y.dv = AExpr.beq x y := by
 simp only [AExpr.dv, AExpr.beq, deq, deqL, ibq, sbq, decide_true, Bool.true_and, Bool.and_true]
 have h : ∀ a b : Int, decide (a = b) = (a == b) := fun a b => by by_cases h : a = b <;> simp [h]
 rw [h, h, Bool.and_assoc, Bool.and_assoc]
theorem deqL_dv : ∀ l m : List AExpr, deqL (l.map AExpr.dv) (m.map AExpr.dv) = lsb AExpr.beq l m
 | [], [] => rfl
 | [], _ :: _ => rfl
 | _ :: _, [] => rfl
 | x :: l, y :: m => by simp [deqL, lsb, deq_dv, deqL_dv l m]
theorem arg_lt {x a : AExpr} (h : a.dv ∈ x.Args.l) : SizeOf.sizeOf a.dv < SizeOf.sizeOf x.dv := by
 have h1 := List.sizeOf_lt_of_mem h
 have h2 : SizeOf.sizeOf x.Args.l < SizeOf.sizeOf x.dv := by
  simp only [AExpr.dv, DV.a.sizeOf_spec, List.cons.sizeOf_spec, DV.l.sizeOf_spec]
  omega
 omega
end Go.Sim
end
end
section
namespace Go.Sim
def tabL : PT :=
 (.bin 158 F158 (.bin 93 F93 (.bin 80 F80 (.bin 76 F76 (.bin 10 F10 .nil .nil) (.bin 79 F79 .nil .nil)) (.bin 84 F84 (.bin 83 F83 .nil .nil) (.bin 92 F92 .nil .nil))) (.bin 146 F146 (.bin 100 F100 (.bin 94 F94 .nil .nil) (.bin 101 F101 .nil .nil)) (.bin 155 F155 (.bin 154 F154 .nil .nil) (.bin 156 F156 .nil .nil)))) (.bin 305 F305 (.bin 232 F232 (.bin 230 F230 (.bin 159 F159 .nil .nil) (.bin 231 F231 .nil .nil)) (.bin 234 F234 (.bin 233 F233 .nil .nil) (.bin 304 F304 .nil .nil))) (.bin 309 F309 (.bin 307 F307 (.bin 306 F306 .nil .nil) (.bin 308 F308 .nil .nil)) (.bin 365 F365 (.bin 310 F310 .nil .nil) .nil))))
abbrev HL (T : Tab) : Prop := ∀ n F, tabL.get n = some F → T.F n = some F
end Go.Sim
end
section
open Go.Sim
attribute [local simp ↓] kC_skip kC_ret kC_exit kC_seq kC_block kC_reg kC_cond kC_condc sqK blK lpK kO_nil kO_O kO_E kO_OG kO_EG grd_b grd_t tst_b brn_true brn_false brn_not chk_T b_mov b_pick b_alloc b_box b_load b_store b_bin b_un b_eqv b_faddr b_field b_iaddr b_sl b_len b_app b_call b_call1 b_callR b_ext bo_some bo_none bo2_some bo2_none bo_iaddr bo_addS bo_quo bo_rem bo_bnd bo_bnd0 ld_q0 ld_qw ld_p subP0 subPw bo_moveP bo_moveQ bo_lenl bo_lens bo_lenr bo_add bo_sub bo_mul bo_eql bo_neq bo_lss bo_leq bo_gtr bo_geq bo_neg bo_not bo_eqS bo_neS grd_nb b_slS slSK_s extK_t ownL_l fin_ret fin_norm bo_res0 bo_rest bo_resc st_p stK_box b_callv callvK_f0 callvK_f1 mkf_b subPs ld_qs kC_regS0 kC_regS1 kC_regS2 kC_regS3 kC_regS4 kC_regS5 b_eqb eqbK_b b_agg0 b_bsl0 b_bsl1 app_l app_r appE_n appE_r bo_lenR b_mkif mkifK_d b_tas tasK_i b_mm2 bo_mm2
attribute [local simp] K_refl obj_0 obj_s get_c get_n drop_c drop_n set_c set_n fix_c fix_n rd IOp.adds nadds gh nid rgK rdS ghosts_c ghosts_n packed1 packed2 purT_b purT_i purT_s purT_a purT_lt purT_lf K_ss K_ns K_sn plains_n plains_c env_val env_ref purs_n purs_d put_0 put_s fits_i fits_b fits_s fits_l lt0_nat fits_a purT_t pur_dv frz_n purT_r purT_f
section
namespace Go.Sim
set_option maxRecDepth 10000
set_option maxHeartbeats 4000000
structure HX (T : Tab) : Prop where
 c15 : HCl T 15 (K1 3) 32
 c60 : HCl T 60 (K1 2) 16
 c160 : HCl T 160 K0 8
 c225 : HCl T 225 (K1 2) 24
 c226 : HCl T 226 (K1 4) 40
 c227 : HCl T 227 (K1 7) 80
 c228 : HCl T 228 (K1 6) 56
 c229 : HCl T 229 (K1 7) 64
structure HXB (T : Tab) : Prop extends HX T where
 c137 : HCl T 137 (K1 4) 32
 c138 : HCl T 138 (K1 14) 128
 c147 : HCl T 147 (K1 11) 88
 c148 : HCl T 148 (K1 10) 88
 c149 : HCl T 149 (K1 7) 64
 c150 : HCl T 150 (K1 9) 80
 c151 : HCl T 151 (K1 7) 72
 c152 : HCl T 152 (K1 3) 32
 c153 : HCl T 153 (K1 5) 64
 c157 : HCl T 157 (K1 4) 40
 c161 : HCl T 161 (K1 3) 24
 c162 : HCl T 162 (K1 3) 32
theorem val307 (T : Tab) (hL : HL T) : ∀ (n : Nat) (x : AExpr), SizeOf.sizeOf x.dv ≤ n → x.ok → T.val 307 [x.dv] = some (.d x.dv, false) := by
 intro n
 induction n with
 | zero => intro x hn _; exfalso; have : 0 < SizeOf.sizeOf x.dv := (by rw [AExpr.dv]; simp; omega); omega

 | succ n ih =>
  intro x hn hx
  obtain ⟨_, _, _, hX⟩ := hx
  obtain ⟨h1, l, h2, h3⟩ := axs_of hX
  obtain ⟨o, m, s, a⟩ := x
  obtain ⟨a, t⟩ := a
  simp only at h1 h2 hX
  subst h2
  have ht : t = false := by cases hX; rfl
  subst ht
  have hb : l.length * 56 ≤ 140737488355328 := by cases hX with | mk _ _ _ h => simpa [cap47] using h
  have he := fun H0 hH => ref_each T (f := 365) (hL 365 F365 rfl) (g := 307) (A := AExpr.dv) (l := l) (fun _ _ => rfl) (fun a ha => ⟨false, ih a (by have := List.sizeOf_lt_of_mem (List.mem_map_of_mem (f := AExpr.dv) ha); simp only [AExpr.dv, DV.a.sizeOf_spec, List.cons.sizeOf_spec, DV.l.sizeOf_spec] at hn this ⊢; omega) (h3 a ha)⟩) false (by have : maxLen = 9223372036854775807 := rfl; simpa [this] using h1) hb H0 hH
  rw [val_k T (hL 307 F307 rfl) rfl]
  simp [F307, Fr.ofArgs]
  rw [he _ (ClB.h (by repeat (first | refine clB_sl ?_ | refine clB_ba ?_ ?_ | refine clB_bd ?_ | refine clB_o ?_ | exact clB_n _ | refine rb_set ?_ (by simp) | exact rb_d _ _)))]
  simp [fits_r, size_n, ↓mkP_eq, cells_d, fits_al]
  refine (purT_al (xs := (AExpr.dv ⟨o, m, s, ⟨l.map AExpr.dv, false⟩⟩).cells) ?_).trans rfl
  exact purL_set (purL_d _ _) rfl rfl (by simp)
theorem val10 (T : Tab) (hL : HL T) (hX : HX T) (x : AEntry) (hf : x.fit) : T.val 10 [x.dv] = some (.d x.dv, false) := by
 have g0 : ∀ (h : 8 < x.dv.cells.length), x.dv.cells[8]'h = .l (K1 3) (x.Legs.l.map ALeg.dv) x.Legs.t := fun _ => rfl
 have b0 : (x.Legs.l.map ALeg.dv).length * 32 ≤ cap47 := by rw [List.length_map]; exact (hf).2.1
 have t0 : x.Legs.t = false := (hf).1
 have e0 := hc_val hX.c15 (t := x.Legs.t) b0
 rw [val_k T (hL 10 F10 rfl) rfl]
 simp [F10, Fr.ofArgs, e0, fits_r, size_n, ↓mkP_eq, cells_d, fits_al]
 refine (purT_al (xs := x.cells) ?_).trans rfl
 exact (purL_set (purL_d _ _) rfl (by rw [← t0]; rfl) (by simp))
theorem val94 (T : Tab) (hL : HL T) (hX : HXB T) (x : ALoan) (hf : x.fit) : T.val 94 [x.dv] = some (.d x.dv, false) := by
 have g0 : ∀ (h : 23 < x.dv.cells.length), x.dv.cells[23]'h = .l (K1 4) (x.Dues.l.map ADue.dv) x.Dues.t := fun _ => rfl
 have b0 : (x.Dues.l.map ADue.dv).length * 32 ≤ cap47 := by rw [List.length_map]; exact (hf.1).2.1
 have t0 : x.Dues.t = false := (hf.1).1
 have e0 := hc_val hX.c137 (t := x.Dues.t) b0
 have g1 : ∀ (h : 24 < x.dv.cells.length), x.dv.cells[24]'h = .l (K1 14) (x.Changes.l.map AChange.dv) x.Changes.t := fun _ => rfl
 have b1 : (x.Changes.l.map AChange.dv).length * 128 ≤ cap47 := by rw [List.length_map]; exact (hf.2).2.1
 have t1 : x.Changes.t = false := (hf.2).1
 have e1 := hc_val hX.c138 (t := x.Changes.t) b1
 rw [val_k T (hL 94 F94 rfl) rfl]
 simp [F94, Fr.ofArgs, e0, e1, fits_r, size_n, ↓mkP_eq, cells_d, cells_a, fits_al, ↓kC_regD, ↓kDq_nil, ↓kDq_O, ↓kDq_E, ↓aftD_go, nfp_go, ↓d_load, ↓d_store, ↓d_faddr, ↓d_call1, accD, writeS, touchS, footD, storeD, chg, roOf, runs, pairsD, disj, PV.refs, IOp.okD, Nat.testBit]
 refine (purT_al (xs := x.cells) ?_).trans rfl
 exact (purL_set (purL_set (purL_d _ _) rfl (by rw [← t0]; rfl) (by simp)) rfl (by rw [← t1]; rfl) (by simp))
theorem val156 (T : Tab) (hL : HL T) (hX : HXB T) (x : AStatement) (hf : x.fit) : T.val 156 [x.dv] = some (.d x.dv, false) := by
 have g0 : ∀ (h : 6 < x.dv.cells.length), x.dv.cells[6]'h = .l (K1 4) (x.Lines.l.map APosting.dv) x.Lines.t := fun _ => rfl
 have b0 : (x.Lines.l.map APosting.dv).length * 40 ≤ cap47 := by rw [List.length_map]; exact (hf).2.1
 have t0 : x.Lines.t = false := (hf).1
 have e0 := hc_val hX.c157 (t := x.Lines.t) b0
 rw [val_k T (hL 156 F156 rfl) rfl]
 simp [F156, Fr.ofArgs, e0, fits_r, size_n, ↓mkP_eq, cells_d, fits_al]
 refine (purT_al (xs := x.cells) ?_).trans rfl
 exact (purL_set (purL_d _ _) rfl (by rw [← t0]; rfl) (by simp))
theorem val159 (T : Tab) (hL : HL T) (hX : HXB T) (x : ARequest) (hf : x.fit) : T.val 159 [x.dv] = some (.d x.dv, false) := by
 have g0 : ∀ (h : 34 < x.dv.cells.length), x.dv.cells[34]'h = .l K0 (x.Command.Crashes.l.map I) x.Command.Crashes.t := fun _ => rfl
 have b0 : (x.Command.Crashes.l.map I).length * 8 ≤ cap47 := by rw [List.length_map]; exact (hf).2
 have t0 : x.Command.Crashes.t = false := (hf).1
 have e0 := hc_val hX.c160 (t := x.Command.Crashes.t) b0
 rw [val_k T (hL 159 F159 rfl) rfl]
 simp [F159, Fr.ofArgs, e0, fits_r, size_n, ↓mkP_eq, cells_d, fits_al]
 refine (purT_al (xs := x.cells) ?_).trans rfl
 exact (purL_set (purL_d _ _) rfl (by rw [← t0]; rfl) (by simp))
theorem val231 (T : Tab) (hL : HL T) (hX : HX T) (x : ACalendar) (hf : x.fit) : T.val 231 [x.dv] = some (.d x.dv, false) := by
 have g0 : ∀ (h : 1 < x.dv.cells.length), x.dv.cells[1]'h = .l K0 (x.Weekend.l.map I) x.Weekend.t := fun _ => rfl
 have b0 : (x.Weekend.l.map I).length * 8 ≤ cap47 := by rw [List.length_map]; exact (hf.1).2
 have t0 : x.Weekend.t = false := (hf.1).1
 have e0 := hc_val hX.c160 (t := x.Weekend.t) b0
 have g1 : ∀ (h : 2 < x.dv.cells.length), x.dv.cells[2]'h = .l K0 (x.Holidays.l.map I) x.Holidays.t := fun _ => rfl
 have b1 : (x.Holidays.l.map I).length * 8 ≤ cap47 := by rw [List.length_map]; exact (hf.2).2
 have t1 : x.Holidays.t = false := (hf.2).1
 have e1 := hc_val hX.c160 (t := x.Holidays.t) b1
 rw [val_k T (hL 231 F231 rfl) rfl]
 simp [F231, Fr.ofArgs, e0, e1, fits_r, size_n, ↓mkP_eq, cells_d, cells_a, fits_al, ↓kC_regD, ↓kDq_nil, ↓kDq_O, ↓kDq_E, ↓aftD_go, nfp_go, ↓d_load, ↓d_store, ↓d_faddr, ↓d_call1, accD, writeS, touchS, footD, storeD, chg, roOf, runs, pairsD, disj, PV.refs, IOp.okD, Nat.testBit]
 refine (purT_al (xs := x.cells) ?_).trans rfl
 exact (purL_set (purL_set (purL_d _ _) rfl (by rw [← t0]; rfl) (by simp)) rfl (by rw [← t1]; rfl) (by simp))
theorem val304 (T : Tab) (hL : HL T) (hX : HX T) (x : AInterest) (hf : x.fit) : T.val 304 [x.dv] = some (.d x.dv, false) := by
 have g0 : ∀ (h : 0 < x.dv.cells.length), x.dv.cells[0]'h = .l (K1 2) (x.Tiers.l.map ATier.dv) x.Tiers.t := fun _ => rfl
 have b0 : (x.Tiers.l.map ATier.dv).length * 16 ≤ cap47 := by rw [List.length_map]; exact (hf).2.1
 have t0 : x.Tiers.t = false := (hf).1
 have e0 := hc_val hX.c60 (t := x.Tiers.t) b0
 rw [val_k T (hL 304 F304 rfl) rfl]
 simp [F304, Fr.ofArgs, e0, fits_r, size_n, ↓mkP_eq, cells_d, fits_al]
 refine (purT_al (xs := x.cells) ?_).trans rfl
 exact (purL_set (purL_d _ _) rfl (by rw [← t0]; rfl) (by simp))
theorem val306 (T : Tab) (hL : HL T) (_hX : HX T) (x : AFee) (hx : x.ok) : T.val 306 [x.dv] = some (.d x.dv, false) := by
 have e0 := val307 T hL _ x.When (Nat.le_refl _) (hx.2.2.1)
 have p0 := fun (y : PV → Option (PV × Bool)) => mkP_slf (y := y) (n := 10) (c := 2) (v := x.dv) (w := x.When.dv) rfl rfl rfl
 have e1 := val307 T hL _ x.Amount (Nat.le_refl _) (hx.2.2.2)
 have p1 := fun (y : PV → Option (PV × Bool)) => mkP_slf (y := y) (n := 10) (c := 6) (v := x.dv) (w := x.Amount.dv) rfl rfl rfl
 rw [val_k T (hL 306 F306 rfl) rfl]
 simp [F306, Fr.ofArgs, e0, ↓p0, e1, ↓p1, size_s, cells_d, ↓kC_regD, ↓kDq_nil, ↓kDq_O, ↓kDq_E, ↓aftD_go, nfp_go, ↓d_load, ↓d_store, ↓d_faddr, ↓d_call0, accD, writeS, touchS, footD, storeD, chg, roOf, runs, pairsD, disj, PV.refs, IOp.okD, Nat.testBit]
theorem val309 (T : Tab) (hL : HL T) (_hX : HX T) (x : ARule) (hx : x.ok) : T.val 309 [x.dv] = some (.d x.dv, false) := by
 have e0 := val307 T hL _ x.Amount (Nat.le_refl _) (hx.2.2)
 have p0 := fun (y : PV → Option (PV × Bool)) => mkP_slf (y := y) (n := 6) (c := 2) (v := x.dv) (w := x.Amount.dv) rfl rfl rfl
 rw [val_k T (hL 309 F309 rfl) rfl]
 simp [F309, Fr.ofArgs, e0, ↓p0, size_s, cells_d]
theorem val233 (T : Tab) (hL : HL T) (hX : HX T) (x : AProduct) (hx : x.ok) (hf : x.fit) : T.val 233 [x.dv] = some (.d x.dv, false) := by
 have g2 : ∀ (h : 17 < x.dv.cells.length), x.dv.cells[17]'h = .l (K1 10) (x.Fees.l.map AFee.dv) x.Fees.t := fun _ => rfl
 have g3 : ∀ (h : 18 < x.dv.cells.length), x.dv.cells[18]'h = .l (K1 6) (x.Rules.l.map ARule.dv) x.Rules.t := fun _ => rfl
 have e0 := val304 T hL hX x.Credit (hf.1)
 have p0 := fun (y : PV → Option (PV × Bool)) => mkP_slf (y := y) (n := 19) (c := 7) (v := x.dv) (w := x.Credit.dv) rfl rfl rfl
 have e1 := val304 T hL hX x.Debit (hf.2.1)
 have p1 := fun (y : PV → Option (PV × Bool)) => mkP_slf (y := y) (n := 19) (c := 12) (v := x.dv) (w := x.Debit.dv) rfl rfl rfl
 have e2 := fun H0 hH => ref_each T (f := 305) (hL 305 F305 rfl) (g := 306) (A := AFee.dv) (l := x.Fees.l) (fun _ _ => rfl) (fun a ha => ⟨false, val306 T hL hX a ((hx.2.2.2.2.2.2.2.2.2.1).2 a ha)⟩) x.Fees.t (by have := (hf.2.2.1).2.1; unfold cap47 at this; omega) (by have := (hf.2.2.1).2.1; unfold cap47 at this; omega) H0 hH
 have t2 : x.Fees.t = false := (hf.2.2.1).1
 have e3 := fun H0 hH => ref_each T (f := 308) (hL 308 F308 rfl) (g := 309) (A := ARule.dv) (l := x.Rules.l) (fun _ _ => rfl) (fun a ha => ⟨false, val309 T hL hX a ((hx.2.2.2.2.2.2.2.2.2.2).2 a ha)⟩) x.Rules.t (by have := (hf.2.2.2).2.1; unfold cap47 at this; omega) (by have := (hf.2.2.2).2.1; unfold cap47 at this; omega) H0 hH
 have t3 : x.Rules.t = false := (hf.2.2.2).1
 rw [val_k T (hL 233 F233 rfl) rfl]
 simp [F233, Fr.ofArgs, e0, ↓p0, e1, ↓p1, size_s, cells_d, ↓kC_regD, ↓kDq_nil, ↓kDq_O, ↓kDq_E, ↓aftD_go, nfp_go, ↓d_load, ↓d_store, ↓d_faddr, ↓d_call0, accD, writeS, touchS, footD, storeD, chg, roOf, runs, pairsD, disj, PV.refs, IOp.okD, Nat.testBit]
 rw [e2 _ (ClB.h (by repeat (first | refine clB_sl ?_ | refine clB_ba ?_ ?_ | refine clB_bd ?_ | refine clB_o ?_ | exact clB_n _ | refine rb_set ?_ (by simp) | exact rb_d _ _)))]
 simp [fits_r, size_n, ↓mkP_eq, ↓subPa, cells_d, g3]
 rw [e3 _ (ClB.h (by repeat (first | refine clB_sl ?_ | refine clB_ba ?_ ?_ | refine clB_bd ?_ | refine clB_o ?_ | exact clB_n _ | refine rb_set ?_ (by simp) | exact rb_d _ _)))]
 simp [fits_r, size_n, ↓mkP_eq, cells_a, fits_al]
 refine (purT_al (xs := x.cells) ?_).trans rfl
 exact (purL_set (purL_set (purL_d _ _) rfl (by rw [← t2]; rfl) (by simp)) rfl (by rw [← t3]; rfl) (by simp))
end Go.Sim
end
section
namespace Go.Sim
set_option maxRecDepth 10000
set_option maxHeartbeats 4000000
theorem val234 (T : Tab) (hL : HL T) (hX : HX T) (l : List AEntry) (hf : ∀ x ∈ l, x.fit) (hb : l.length * 112 ≤ cap47) : T.val 234 [.l (K1 10) (l.map AEntry.dv) false] = some (.d (.l (K1 10) (l.map AEntry.dv) false), true) := by
 have e := fun H0 hH => ref_each T (f := 310) (hL 310 F310 rfl) (g := 10) (A := AEntry.dv) (l := l) (fun _ _ => rfl) (fun a ha => ⟨false, val10 T hL hX a (hf a ha)⟩) false (by unfold cap47 at hb; omega) (by unfold cap47 at hb; omega) H0 hH
 rw [val_k T (hL 234 F234 rfl) rfl]
 simp [F234, Fr.ofArgs]
 rw [e _ (ClB.h (by repeat (first | refine clB_sl ?_ | refine clB_ba ?_ ?_ | refine clB_bd ?_ | refine clB_o ?_ | exact clB_n _ | refine rb_set ?_ (by simp) | exact rb_d _ _)))]
 simp
 exact List.take_of_length_le (by simp)
theorem val146 (T : Tab) (hL : HL T) (hX : HX T) (x : ABooks) (hx : x.ok) (hf : x.fit) : T.val 146 [x.dv] = some (.d x.dv, false) := by
 have g0 : ∀ (h : 0 < x.dv.cells.length), x.dv.cells[0]'h = .l (K1 2) (x.Currencies.l.map ACurrency.dv) x.Currencies.t := fun _ => rfl
 have b0 : (x.Currencies.l.map ACurrency.dv).length * 24 ≤ cap47 := by rw [List.length_map]; exact (hf.1).2.1
 have t0 : x.Currencies.t = false := (hf.1).1
 have e0 := hc_val hX.c225 (t := x.Currencies.t) b0
 have g1 : ∀ (h : 2 < x.dv.cells.length), x.dv.cells[2]'h = .l (K1 4) (x.Chart.l.map AGl.dv) x.Chart.t := fun _ => rfl
 have b1 : (x.Chart.l.map AGl.dv).length * 40 ≤ cap47 := by rw [List.length_map]; exact (hf.2.2.1).2.1
 have t1 : x.Chart.t = false := (hf.2.2.1).1
 have e1 := hc_val hX.c226 (t := x.Chart.t) b1
 have g2 : ∀ (h : 18 < x.dv.cells.length), x.dv.cells[18]'h = .l (K1 7) (x.Accounts.l.map AAccount.dv) x.Accounts.t := fun _ => rfl
 have b2 : (x.Accounts.l.map AAccount.dv).length * 80 ≤ cap47 := by rw [List.length_map]; exact (hf.2.2.2.2.1).2.1
 have t2 : x.Accounts.t = false := (hf.2.2.2.2.1).1
 have e2 := hc_val hX.c227 (t := x.Accounts.t) b2
 have g3 : ∀ (h : 20 < x.dv.cells.length), x.dv.cells[20]'h = .l (K1 6) (x.Holds.l.map AHold.dv) x.Holds.t := fun _ => rfl
 have b3 : (x.Holds.l.map AHold.dv).length * 56 ≤ cap47 := by rw [List.length_map]; exact (hf.2.2.2.2.2.2.1).2.1
 have t3 : x.Holds.t = false := (hf.2.2.2.2.2.2.1).1
 have e3 := hc_val hX.c228 (t := x.Holds.t) b3
 have g4 : ∀ (h : 21 < x.dv.cells.length), x.dv.cells[21]'h = .l (K1 7) (x.Blocks.l.map ABlock.dv) x.Blocks.t := fun _ => rfl
 have b4 : (x.Blocks.l.map ABlock.dv).length * 64 ≤ cap47 := by rw [List.length_map]; exact (hf.2.2.2.2.2.2.2).2.1
 have t4 : x.Blocks.t = false := (hf.2.2.2.2.2.2.2).1
 have e4 := hc_val hX.c229 (t := x.Blocks.t) b4
 have g5 : ∀ (h : 1 < x.dv.cells.length), x.dv.cells[1]'h = .l (K1 3) (x.Calendars.l.map ACalendar.dv) x.Calendars.t := fun _ => rfl
 have g6 : ∀ (h : 17 < x.dv.cells.length), x.dv.cells[17]'h = .l (K1 19) (x.Products.l.map AProduct.dv) x.Products.t := fun _ => rfl
 have g7 : ∀ (h : 19 < x.dv.cells.length), x.dv.cells[19]'h = .l (K1 10) (x.Journal.l.map AEntry.dv) x.Journal.t := fun _ => rfl
 have e5 := fun H0 hH => ref_each T (f := 230) (hL 230 F230 rfl) (g := 231) (A := ACalendar.dv) (l := x.Calendars.l) (fun _ _ => rfl) (fun a ha => ⟨false, val231 T hL hX a  ((hf.2.1).2.2 a ha)⟩) x.Calendars.t (by have := (hf.2.1).2.1; unfold cap47 at this; omega) (by have := (hf.2.1).2.1; unfold cap47 at this; omega) H0 hH
 have t5 : x.Calendars.t = false := (hf.2.1).1
 have e6 := fun H0 hH => ref_each T (f := 232) (hL 232 F232 rfl) (g := 233) (A := AProduct.dv) (l := x.Products.l) (fun _ _ => rfl) (fun a ha => ⟨false, val233 T hL hX a ((hx.2.2.2.2.1).2 a ha) ((hf.2.2.2.1).2.2 a ha)⟩) x.Products.t (by have := (hf.2.2.2.1).2.1; unfold cap47 at this; omega) (by have := (hf.2.2.2.1).2.1; unfold cap47 at this; omega) H0 hH
 have t6 : x.Products.t = false := (hf.2.2.2.1).1
 have t7 : x.Journal.t = false := (hf.2.2.2.2.2.1).1
 have e7 := val234 T hL hX x.Journal.l (hf.2.2.2.2.2.1).2.2 (hf.2.2.2.2.2.1).2.1
 rw [← t7] at e7
 rw [val_k T (hL 146 F146 rfl) rfl]
 simp [F146, Fr.ofArgs, e0, e1, e2, g3, e3, g4, e4, g5, fits_r, size_n, ↓mkP_eq, ↓subPa, cells_d, cells_a, ↓kC_regD, ↓kDq_nil, ↓kDq_O, ↓kDq_E, ↓aftD_go, nfp_go, ↓d_load, ↓d_store, ↓d_faddr, ↓d_call1, accD, writeS, touchS, footD, storeD, chg, roOf, runs, pairsD, disj, PV.refs, IOp.okD, Nat.testBit]
 rw [e5 _ (ClB.h (by repeat (first | refine clB_sl ?_ | refine clB_ba ?_ ?_ | refine clB_bd ?_ | refine clB_o ?_ | exact clB_n _ | refine rb_set ?_ (by simp) | exact rb_d _ _)))]
 simp [fits_r, size_n, ↓mkP_eq, ↓subPa, cells_a, g6]
 rw [e6 _ (ClB.h (by repeat (first | refine clB_sl ?_ | refine clB_ba ?_ ?_ | refine clB_bd ?_ | refine clB_o ?_ | exact clB_n _ | refine rb_set ?_ (by simp) | exact rb_d _ _)))]
 simp [fits_r, dcells_l, size_n, ↓mkP_eq, ↓subPa, cells_d, cells_a, g7, e7]
 rw [mkP_same (by simp; rfl) (by simp) (by simp)]
 simp [fits_al]
 refine (purT_al (xs := x.cells) ?_).trans rfl
 exact (purL_set (purL_set (purL_set (purL_set (purL_set (purL_set (purL_set (purL_d _ _) rfl (by rw [← t0]; rfl) (by simp)) rfl (by rw [← t1]; rfl) (by simp)) rfl (by rw [← t2]; rfl) (by simp)) rfl (by rw [← t3]; rfl) (by simp)) rfl (by rw [← t4]; rfl) (by simp)) rfl (by rw [← t5]; rfl) (by simp)) rfl (by rw [← t6]; rfl) (by simp))
end Go.Sim
end
section
namespace Go.Sim
set_option maxRecDepth 10000
set_option maxHeartbeats 4000000
theorem put_lo (H J : Heap) (x : Option Obj) {o : Nat} (h : o < H.length) : Heap.put (H ++ J) o x = Heap.put H o x ++ J := by
  unfold Heap.put; rw [List.set_append_left _ _ h]
theorem obj_lo (H J : Heap) {o : Nat} (h : o < H.length) : Heap.obj (H ++ J) o = Heap.obj H o := by
  unfold Heap.obj; rw [List.getElem?_append_left h]
theorem put_len (H : Heap) (x : Option Obj) (o : Nat) : (Heap.put H o x).length = H.length := by unfold Heap.put; simp
theorem obj_put (H : Heap) (x : Obj) {o : Nat} (h : o < H.length) : Heap.obj (Heap.put H o (some x)) o = some x := by unfold Heap.obj Heap.put; rw [List.getElem?_set_self h]
theorem put_put (H : Heap) (x y : Option Obj) {o : Nat} : Heap.put (Heap.put H o x) o y = Heap.put H o y := by unfold Heap.put; simp
theorem put_a2 (H J : Heap) (x : Option Obj) : Heap.put (H ++ J) (H.length + 1 + 1) x = H ++ Heap.put J 2 x := put_app H J x 2
theorem put_a3 (H J : Heap) (x : Option Obj) : Heap.put (H ++ J) (H.length + 1 + 1 + 1) x = H ++ Heap.put J 3 x := put_app H J x 3
theorem obj_a2 (H J : Heap) : Heap.obj (H ++ J) (H.length + 1 + 1) = Heap.obj J 2 := obj_app H J 2
theorem obj_a3 (H J : Heap) : Heap.obj (H ++ J) (H.length + 1 + 1 + 1) = Heap.obj J 3 := obj_app H J 3
theorem dreg0 {R : Type} {Ev : Env} {base : Nat} {H : Heap} {o : Nat} {L : List PV} {B v2 : PV} {k : KC R} (ho : o < H.length) (hB : H.obj o = some (.box (K1 42) B)) (hL : B.cells = L) (hn : L.length = 42) {e0 : List DV} {t0 : Bool} (l0 : L[25]? = some (.d (.l (K1 11) e0 t0))) (c0 : Ev.val 147 [.l (K1 11) e0 t0] = some (.d (.l (K1 11) e0 false), true)) {e1 : List DV} {t1 : Bool} (l1 : L[27]? = some (.d (.l (K1 10) e1 t1))) (c1 : Ev.val 148 [.l (K1 10) e1 t1] = some (.d (.l (K1 10) e1 false), true)) {e2 : List DV} {t2 : Bool} (l2 : L[28]? = some (.d (.l (K1 7) e2 t2))) (c2 : Ev.val 149 [.l (K1 7) e2 t2] = some (.d (.l (K1 7) e2 false), true)) :
    kC Ev base [(2, v2), (1, .p o 0 0)] H (.h (.regD [
 O 7 (.faddr 25 (.t 1)),
 O 8 (.load K0 (.t 7)),
 O 9 (.call 1 147 [(.t 8)]),
 O 10 (.faddr 27 (.t 1)),
 O 11 (.load K0 (.t 10)),
 O 12 (.call 1 148 [(.t 11)]),
 O 13 (.faddr 28 (.t 1)),
 O 14 (.load K0 (.t 13)),
 O 15 (.call 1 149 [(.t 14)]),
 O 16 (.faddr 25 (.t 1)),
 E (.store K0 (.t 16) (.t 9)),
 O 17 (.faddr 27 (.t 1)),
 E (.store K0 (.t 17) (.t 12)),
 O 18 (.faddr 28 (.t 1)),
 E (.store K0 (.t 18) (.t 15))] [0, 1, 3, 0, 8, 31, 0, 64, 255, 223, 1023, 2047, 4095, 8191, 16383] [18, 17, 16, 15, 14, 13, 12, 11, 10, 9, 8, 7], k)) = k .norm [(2, v2), (1, .p o 0 0)] (H.put o (some (.box (K1 42) (.a ((((L.set 25 (.r (H.length) (K1 11) 0 e0.length false)).set 27 (.r (H.length + 1) (K1 10) 0 e1.length false)).set 28 (.r (H.length + 2) (K1 7) 0 e2.length false)))))) ++ [some (.sl (K1 11) 0 e0), some (.sl (K1 10) 0 e1), some (.sl (K1 7) 0 e2)]) := by
  have g0 : ∀ h, L[25]'h = (.d (.l (K1 11) e0 t0)) := fun h => by have := l0; rw [List.getElem?_eq_getElem h] at this; exact Option.some.inj this
  have g1 : ∀ h, L[27]'h = (.d (.l (K1 10) e1 t1)) := fun h => by have := l1; rw [List.getElem?_eq_getElem h] at this; exact Option.some.inj this
  have g2 : ∀ h, L[28]'h = (.d (.l (K1 7) e2 t2)) := fun h => by have := l2; rw [List.getElem?_eq_getElem h] at this; exact Option.some.inj this
  have n0 : ¬ H.length = o := by omega
  have n1 : ¬ H.length + 1 = o := by omega
  have n2 : ¬ H.length + 2 = o := by omega
  have n3 : ¬ H.length + 3 = o := by omega
  have m0 : ¬ o = H.length := by omega
  have m1 : ¬ o = H.length + 1 := by omega
  have m2 : ¬ o = H.length + 2 := by omega
  have m3 : ¬ o = H.length + 3 := by omega
  have m4 : ∀ n : Nat, n.beq n = true := Nat.beq_refl
  have hs : ∀ (c : Nat) (y : PV → Option R), bo (subP (K1 42) B c none) (.h y) = chk (c < 42) (.h (bo L[c]? (.h y))) := fun c y => by
    subst hL
    cases B with
    | d v => rw [subP0, cells_d, List.getElem?_map]; cases v.cells[c]? <;> rfl
    | a l => exact subPa
    | _ => simp [PV.cells] at hn
  simp [n0, n1, n2, m0, m1, m2, ho, hB, hL, hn, ↓hs, g0, c0, g1, c1, g2, c2, fits_r, size_n, ↓mkP_eq, cells_a, put_app, put_a2, put_app0, obj_app0, put_lo, obj_lo, put_len, obj_put, put_put, ↓kC_regD, ↓kDq_nil, ↓kDq_O, ↓kDq_E, ↓aftD_go, nfp_go, ↓d_load, ↓d_store, ↓d_faddr, ↓d_call1, accD, writeS, touchS, footD, storeD, chg, roOf, runs, pairsD, disj, PV.refs, IOp.okD, Nat.testBit]
theorem dreg1 {R : Type} {Ev : Env} {base : Nat} {H : Heap} {o : Nat} {L : List PV} {B v2 : PV} {k : KC R} (ho : o < H.length) (hB : H.obj o = some (.box (K1 42) B)) (hL : B.cells = L) (hn : L.length = 42) {e0 : List DV} {t0 : Bool} (l0 : L[29]? = some (.d (.l (K1 9) e0 t0))) (c0 : Ev.val 150 [.l (K1 9) e0 t0] = some (.d (.l (K1 9) e0 false), true)) {e1 : List DV} {t1 : Bool} (l1 : L[30]? = some (.d (.l (K1 7) e1 t1))) (c1 : Ev.val 151 [.l (K1 7) e1 t1] = some (.d (.l (K1 7) e1 false), true)) {e2 : List DV} {t2 : Bool} (l2 : L[32]? = some (.d (.l (K1 3) e2 t2))) (c2 : Ev.val 152 [.l (K1 3) e2 t2] = some (.d (.l (K1 3) e2 false), true)) {e3 : List DV} {t3 : Bool} (l3 : L[34]? = some (.d (.l (K1 5) e3 t3))) (c3 : Ev.val 153 [.l (K1 5) e3 t3] = some (.d (.l (K1 5) e3 false), true)) :
    kC Ev base [(2, v2), (1, .p o 0 0)] H (.h (.regD [
 O 19 (.faddr 29 (.t 1)),
 O 20 (.load K0 (.t 19)),
 O 21 (.call 1 150 [(.t 20)]),
 O 22 (.faddr 30 (.t 1)),
 O 23 (.load K0 (.t 22)),
 O 24 (.call 1 151 [(.t 23)]),
 O 25 (.faddr 32 (.t 1)),
 O 26 (.load K0 (.t 25)),
 O 27 (.call 1 152 [(.t 26)]),
 O 28 (.faddr 34 (.t 1)),
 O 29 (.load K0 (.t 28)),
 O 30 (.call 1 153 [(.t 29)]),
 O 31 (.faddr 29 (.t 1)),
 E (.store K0 (.t 31) (.t 21)),
 O 32 (.faddr 30 (.t 1)),
 E (.store K0 (.t 32) (.t 24)),
 O 33 (.faddr 32 (.t 1)),
 E (.store K0 (.t 33) (.t 27)),
 O 34 (.faddr 34 (.t 1)),
 E (.store K0 (.t 34) (.t 30))] [0, 1, 3, 0, 8, 31, 0, 64, 255, 0, 512, 2047, 1759, 8191, 16383, 32767, 65535, 131071, 262143, 524287] [34, 33, 32, 31, 30, 29, 28, 27, 26, 25, 24, 23, 22, 21, 20, 19], k)) = k .norm [(2, v2), (1, .p o 0 0)] (H.put o (some (.box (K1 42) (.a (((((L.set 29 (.r (H.length) (K1 9) 0 e0.length false)).set 30 (.r (H.length + 1) (K1 7) 0 e1.length false)).set 32 (.r (H.length + 2) (K1 3) 0 e2.length false)).set 34 (.r (H.length + 3) (K1 5) 0 e3.length false)))))) ++ [some (.sl (K1 9) 0 e0), some (.sl (K1 7) 0 e1), some (.sl (K1 3) 0 e2), some (.sl (K1 5) 0 e3)]) := by
  have g0 : ∀ h, L[29]'h = (.d (.l (K1 9) e0 t0)) := fun h => by have := l0; rw [List.getElem?_eq_getElem h] at this; exact Option.some.inj this
  have g1 : ∀ h, L[30]'h = (.d (.l (K1 7) e1 t1)) := fun h => by have := l1; rw [List.getElem?_eq_getElem h] at this; exact Option.some.inj this
  have g2 : ∀ h, L[32]'h = (.d (.l (K1 3) e2 t2)) := fun h => by have := l2; rw [List.getElem?_eq_getElem h] at this; exact Option.some.inj this
  have g3 : ∀ h, L[34]'h = (.d (.l (K1 5) e3 t3)) := fun h => by have := l3; rw [List.getElem?_eq_getElem h] at this; exact Option.some.inj this
  have n0 : ¬ H.length = o := by omega
  have n1 : ¬ H.length + 1 = o := by omega
  have n2 : ¬ H.length + 2 = o := by omega
  have n3 : ¬ H.length + 3 = o := by omega
  have m0 : ¬ o = H.length := by omega
  have m1 : ¬ o = H.length + 1 := by omega
  have m2 : ¬ o = H.length + 2 := by omega
  have m3 : ¬ o = H.length + 3 := by omega
  have m4 : ∀ n : Nat, n.beq n = true := Nat.beq_refl
  have hs : ∀ (c : Nat) (y : PV → Option R), bo (subP (K1 42) B c none) (.h y) = chk (c < 42) (.h (bo L[c]? (.h y))) := fun c y => by
    subst hL
    cases B with
    | d v => rw [subP0, cells_d, List.getElem?_map]; cases v.cells[c]? <;> rfl
    | a l => exact subPa
    | _ => simp [PV.cells] at hn
  simp [n0, n1, n2, n3, m0, m1, m2, m3, ho, hB, hL, hn, ↓hs, g0, c0, g1, c1, g2, c2, g3, c3, fits_r, size_n, ↓mkP_eq, cells_a, put_app, put_a2, put_a3, put_app0, obj_app0, put_lo, obj_lo, put_len, obj_put, put_put, ↓kC_regD, ↓kDq_nil, ↓kDq_O, ↓kDq_E, ↓aftD_go, nfp_go, ↓d_load, ↓d_store, ↓d_faddr, ↓d_call1, accD, writeS, touchS, footD, storeD, chg, roOf, runs, pairsD, disj, PV.refs, IOp.okD, Nat.testBit]
theorem dreg2 {R : Type} {Ev : Env} {base : Nat} {H : Heap} {o : Nat} {L : List PV} {B v2 : PV} {k : KC R} (ho : o < H.length) (hB : H.obj o = some (.box (K1 42) B)) (hL : B.cells = L) (hn : L.length = 42) {e0 : List DV} {t0 : Bool} (l0 : L[40]? = some (.d (.l (K1 3) e0 t0))) (c0 : Ev.val 161 [.l (K1 3) e0 t0] = some (.d (.l (K1 3) e0 false), true)) {e1 : List DV} {t1 : Bool} (l1 : L[41]? = some (.d (.l (K1 3) e1 t1))) (c1 : Ev.val 162 [.l (K1 3) e1 t1] = some (.d (.l (K1 3) e1 false), true)) :
    kC Ev base [(2, v2), (1, .p o 0 0)] H (.h (.regD [
 O 47 (.faddr 39 (.t 1)),
 O 48 (.faddr 1 (.t 47)),
 O 49 (.load K0 (.t 48)),
 O 50 (.call 1 161 [(.t 49)]),
 O 51 (.faddr 39 (.t 1)),
 O 52 (.faddr 2 (.t 51)),
 O 53 (.load K0 (.t 52)),
 O 54 (.call 1 162 [(.t 53)]),
 O 55 (.faddr 39 (.t 1)),
 O 56 (.faddr 1 (.t 55)),
 E (.store K0 (.t 56) (.t 50)),
 O 57 (.faddr 39 (.t 1)),
 O 58 (.faddr 2 (.t 57)),
 E (.store K0 (.t 58) (.t 54))] [0, 1, 3, 7, 0, 16, 48, 127, 127, 383, 1023, 2047, 4095, 8191] [58, 57, 56, 55, 54, 53, 52, 51, 50, 49, 48, 47], k)) = k .norm [(2, v2), (1, .p o 0 0)] (H.put o (some (.box (K1 42) (.a (((L.set 40 (.r (H.length) (K1 3) 0 e0.length false)).set 41 (.r (H.length + 1) (K1 3) 0 e1.length false)))))) ++ [some (.sl (K1 3) 0 e0), some (.sl (K1 3) 0 e1)]) := by
  have g0 : ∀ h, L[40]'h = (.d (.l (K1 3) e0 t0)) := fun h => by have := l0; rw [List.getElem?_eq_getElem h] at this; exact Option.some.inj this
  have g1 : ∀ h, L[41]'h = (.d (.l (K1 3) e1 t1)) := fun h => by have := l1; rw [List.getElem?_eq_getElem h] at this; exact Option.some.inj this
  have n0 : ¬ H.length = o := by omega
  have n1 : ¬ H.length + 1 = o := by omega
  have n2 : ¬ H.length + 2 = o := by omega
  have n3 : ¬ H.length + 3 = o := by omega
  have m0 : ¬ o = H.length := by omega
  have m1 : ¬ o = H.length + 1 := by omega
  have m2 : ¬ o = H.length + 2 := by omega
  have m3 : ¬ o = H.length + 3 := by omega
  have m4 : ∀ n : Nat, n.beq n = true := Nat.beq_refl
  have hs : ∀ (c : Nat) (y : PV → Option R), bo (subP (K1 42) B c none) (.h y) = chk (c < 42) (.h (bo L[c]? (.h y))) := fun c y => by
    subst hL
    cases B with
    | d v => rw [subP0, cells_d, List.getElem?_map]; cases v.cells[c]? <;> rfl
    | a l => exact subPa
    | _ => simp [PV.cells] at hn
  simp [n0, n1, m0, m1, ho, hB, hL, hn, ↓hs, g0, c0, g1, c1, fits_r, size_n, ↓mkP_eq, cells_a, put_app, put_app0, obj_app0, put_lo, obj_lo, put_len, obj_put, put_put, ↓kC_regD, ↓kDq_nil, ↓kDq_O, ↓kDq_E, ↓aftD_go, nfp_go, ↓d_load, ↓d_store, ↓d_faddr, ↓d_call1, accD, writeS, touchS, footD, storeD, chg, roOf, runs, pairsD, disj, PV.refs, IOp.okD, Nat.testBit]
end Go.Sim
end
section
namespace Go.Sim
set_option maxRecDepth 10000
set_option maxHeartbeats 4000000
def bankR (b : Nat) (x : ABank) : List PV := ((((((((((((x.dv.cells.map PV.d).set 25 (.r (b + 0) (K1 11) 0 x.Periods.l.length false)).set 26 (.r (b + 1) (K1 25) 0 x.Loans.l.length false)).set 27 (.r (b + 2) (K1 10) 0 x.Orders.l.length false)).set 28 (.r (b + 3) (K1 7) 0 x.Mandates.l.length false)).set 29 (.r (b + 4) (K1 9) 0 x.Debits.l.length false)).set 30 (.r (b + 5) (K1 7) 0 x.Inbox.l.length false)).set 31 (.r (b + 6) (K1 7) 0 x.Statements.l.length false)).set 32 (.r (b + 7) (K1 3) 0 x.Users.l.length false)).set 33 (.r (b + 8) (K1 35) 0 x.Requests.l.length false)).set 34 (.r (b + 9) (K1 5) 0 x.Trail.l.length false)).set 40 (.r (b + 10) (K1 3) 0 x.Night.Avail.l.length false)).set 41 (.r (b + 11) (K1 3) 0 x.Night.Queue.l.length false)
def bankH (x : ABank) : Heap := [some (.sl (K1 11) 0 (x.Periods.l.map APeriod.dv)), some (.sl (K1 25) 0 (x.Loans.l.map ALoan.dv)), some (.sl (K1 10) 0 (x.Orders.l.map AOrder.dv)), some (.sl (K1 7) 0 (x.Mandates.l.map AMandate.dv)), some (.sl (K1 9) 0 (x.Debits.l.map ADebit.dv)), some (.sl (K1 7) 0 (x.Inbox.l.map AMessage.dv)), some (.sl (K1 7) 0 (x.Statements.l.map AStatement.dv)), some (.sl (K1 3) 0 (x.Users.l.map AUser.dv)), some (.sl (K1 35) 0 (x.Requests.l.map ARequest.dv)), some (.sl (K1 5) 0 (x.Trail.l.map AMark.dv)), some (.sl (K1 3) 0 (x.Night.Avail.l.map AAvail.dv)), some (.sl (K1 3) 0 (x.Night.Queue.l.map AWait.dv))]
theorem ref100 (T : Tab) (hL : HL T) (hX : HXB T) (x : ABank) (hx : x.ok) (hf : x.fit) (k0 k1 k2 : K) (w0 w1 w2 : DV) : T.ref 100 [.d x.dv] [some (.box k0 (.d w0)), some (.box k1 (.d w1)), some (.box k2 (.d w2)), none] = some (.a (bankR 4 x), [some (.box k0 (.d w0)), some (.box k1 (.d w1)), some (.box k2 (.d w2)), none] ++ bankH x) := by
 have g1 : ∀ (h : 25 < x.dv.cells.length), x.dv.cells[25]'h = .l (K1 11) (x.Periods.l.map APeriod.dv) x.Periods.t := fun _ => rfl
 have b1 : (x.Periods.l.map APeriod.dv).length * 88 ≤ cap47 := by rw [List.length_map]; exact (hf.2.1).2.1
 have t1 : x.Periods.t = false := (hf.2.1).1
 have e1 := hc_val hX.c147 (t := x.Periods.t) b1
 have g2 : ∀ (h : 27 < x.dv.cells.length), x.dv.cells[27]'h = .l (K1 10) (x.Orders.l.map AOrder.dv) x.Orders.t := fun _ => rfl
 have b2 : (x.Orders.l.map AOrder.dv).length * 88 ≤ cap47 := by rw [List.length_map]; exact (hf.2.2.2.1).2.1
 have t2 : x.Orders.t = false := (hf.2.2.2.1).1
 have e2 := hc_val hX.c148 (t := x.Orders.t) b2
 have g3 : ∀ (h : 28 < x.dv.cells.length), x.dv.cells[28]'h = .l (K1 7) (x.Mandates.l.map AMandate.dv) x.Mandates.t := fun _ => rfl
 have b3 : (x.Mandates.l.map AMandate.dv).length * 64 ≤ cap47 := by rw [List.length_map]; exact (hf.2.2.2.2.1).2.1
 have t3 : x.Mandates.t = false := (hf.2.2.2.2.1).1
 have e3 := hc_val hX.c149 (t := x.Mandates.t) b3
 have g4 : ∀ (h : 29 < x.dv.cells.length), x.dv.cells[29]'h = .l (K1 9) (x.Debits.l.map ADebit.dv) x.Debits.t := fun _ => rfl
 have b4 : (x.Debits.l.map ADebit.dv).length * 80 ≤ cap47 := by rw [List.length_map]; exact (hf.2.2.2.2.2.1).2.1
 have t4 : x.Debits.t = false := (hf.2.2.2.2.2.1).1
 have e4 := hc_val hX.c150 (t := x.Debits.t) b4
 have g5 : ∀ (h : 30 < x.dv.cells.length), x.dv.cells[30]'h = .l (K1 7) (x.Inbox.l.map AMessage.dv) x.Inbox.t := fun _ => rfl
 have b5 : (x.Inbox.l.map AMessage.dv).length * 72 ≤ cap47 := by rw [List.length_map]; exact (hf.2.2.2.2.2.2.1).2.1
 have t5 : x.Inbox.t = false := (hf.2.2.2.2.2.2.1).1
 have e5 := hc_val hX.c151 (t := x.Inbox.t) b5
 have g6 : ∀ (h : 32 < x.dv.cells.length), x.dv.cells[32]'h = .l (K1 3) (x.Users.l.map AUser.dv) x.Users.t := fun _ => rfl
 have b6 : (x.Users.l.map AUser.dv).length * 32 ≤ cap47 := by rw [List.length_map]; exact (hf.2.2.2.2.2.2.2.2.1).2.1
 have t6 : x.Users.t = false := (hf.2.2.2.2.2.2.2.2.1).1
 have e6 := hc_val hX.c152 (t := x.Users.t) b6
 have g7 : ∀ (h : 34 < x.dv.cells.length), x.dv.cells[34]'h = .l (K1 5) (x.Trail.l.map AMark.dv) x.Trail.t := fun _ => rfl
 have b7 : (x.Trail.l.map AMark.dv).length * 64 ≤ cap47 := by rw [List.length_map]; exact (hf.2.2.2.2.2.2.2.2.2.2.1).2.1
 have t7 : x.Trail.t = false := (hf.2.2.2.2.2.2.2.2.2.2.1).1
 have e7 := hc_val hX.c153 (t := x.Trail.t) b7
 have g8 : ∀ (h : 26 < x.dv.cells.length), x.dv.cells[26]'h = .l (K1 25) (x.Loans.l.map ALoan.dv) x.Loans.t := fun _ => rfl
 have g9 : ∀ (h : 31 < x.dv.cells.length), x.dv.cells[31]'h = .l (K1 7) (x.Statements.l.map AStatement.dv) x.Statements.t := fun _ => rfl
 have g10 : ∀ (h : 33 < x.dv.cells.length), x.dv.cells[33]'h = .l (K1 35) (x.Requests.l.map ARequest.dv) x.Requests.t := fun _ => rfl
 have g11 : ∀ (h : 40 < x.dv.cells.length), x.dv.cells[40]'h = .l (K1 3) (x.Night.Avail.l.map AAvail.dv) x.Night.Avail.t := fun _ => rfl
 have b11 : (x.Night.Avail.l.map AAvail.dv).length * 24 ≤ cap47 := by rw [List.length_map]; exact (hf.2.2.2.2.2.2.2.2.2.2.2.1).2.1
 have t11 : x.Night.Avail.t = false := (hf.2.2.2.2.2.2.2.2.2.2.2.1).1
 have e11 := hc_val hX.c161 (t := x.Night.Avail.t) b11
 have g12 : ∀ (h : 41 < x.dv.cells.length), x.dv.cells[41]'h = .l (K1 3) (x.Night.Queue.l.map AWait.dv) x.Night.Queue.t := fun _ => rfl
 have b12 : (x.Night.Queue.l.map AWait.dv).length * 32 ≤ cap47 := by rw [List.length_map]; exact (hf.2.2.2.2.2.2.2.2.2.2.2.2).2.1
 have t12 : x.Night.Queue.t = false := (hf.2.2.2.2.2.2.2.2.2.2.2.2).1
 have e12 := hc_val hX.c162 (t := x.Night.Queue.t) b12
 have e0 := val146 T hL hX.toHX x.Books (hx.2.2.2.1) (hf.1)
 have p0 := fun (y : PV → Option (PV × Heap)) => mkP_slf (y := y) (n := 42) (c := 3) (v := x.dv) (w := x.Books.dv) rfl rfl rfl
 have e8 := fun H0 hH => ref_each T (f := 154) (hL 154 F154 rfl) (g := 94) (A := ALoan.dv) (l := x.Loans.l) (fun _ _ => rfl) (fun a ha => ⟨false, val94 T hL hX a  ((hf.2.2.1).2.2 a ha)⟩) x.Loans.t (by have := (hf.2.2.1).2.1; unfold cap47 at this; omega) (by have := (hf.2.2.1).2.1; unfold cap47 at this; omega) H0 hH
 have t8 : x.Loans.t = false := (hf.2.2.1).1
 have e9 := fun H0 hH => ref_each T (f := 155) (hL 155 F155 rfl) (g := 156) (A := AStatement.dv) (l := x.Statements.l) (fun _ _ => rfl) (fun a ha => ⟨false, val156 T hL hX a  ((hf.2.2.2.2.2.2.2.1).2.2 a ha)⟩) x.Statements.t (by have := (hf.2.2.2.2.2.2.2.1).2.1; unfold cap47 at this; omega) (by have := (hf.2.2.2.2.2.2.2.1).2.1; unfold cap47 at this; omega) H0 hH
 have t9 : x.Statements.t = false := (hf.2.2.2.2.2.2.2.1).1
 have e10 := fun H0 hH => ref_each T (f := 158) (hL 158 F158 rfl) (g := 159) (A := ARequest.dv) (l := x.Requests.l) (fun _ _ => rfl) (fun a ha => ⟨false, val159 T hL hX a  ((hf.2.2.2.2.2.2.2.2.2.1).2.2 a ha)⟩) x.Requests.t (by have := (hf.2.2.2.2.2.2.2.2.2.1).2.1; unfold cap47 at this; omega) (by have := (hf.2.2.2.2.2.2.2.2.2.1).2.1; unfold cap47 at this; omega) H0 hH
 have t10 : x.Requests.t = false := (hf.2.2.2.2.2.2.2.2.2.1).1
 rw [ref_k T (hL 100 F100 rfl) rfl]
 have hz : F100 = F100 := rfl
 conv at hz => rhs; unfold F100
 generalize (DV.a [(I 0), (I 0), (.s []), (.l (K1 2) [] true), (.l (K1 3) [] true), (.l (K1 4) [] true), (I 0), (I 0), (I 0), (I 0), (I 0), (I 0), (I 0), (I 0), (I 0), (I 0), (I 0), (I 0), (I 0), (I 0), (.l (K1 19) [] true), (.l (K1 7) [] true), (.l (K1 10) [] true), (.l (K1 6) [] true), (.l (K1 7) [] true), (.l (K1 11) [] true), (.l (K1 25) [] true), (.l (K1 10) [] true), (.l (K1 7) [] true), (.l (K1 9) [] true), (.l (K1 7) [] true), (.l (K1 7) [] true), (.l (K1 3) [] true), (.l (K1 35) [] true), (.l (K1 5) [] true), (.b false), (I 0), (I 0), (I 0), (I 0), (.l (K1 3) [] true), (.l (K1 3) [] true)]) = z at hz
 rw [hz]
 simp [Fr.ofArgs, e0, ↓p0, size_s, cells_d]
 refine Eq.trans (dreg0 (o := 4) (B := .d x.dv) (L := x.dv.cells.map PV.d) ?_ rfl (cells_d _) ?_ ?_ e1 ?_ e2 ?_ e3) ?_
 ·simp
 ·simp
 ·simp [g1]
 ·simp [g2]
 ·simp [g3]
 simp
 refine Eq.trans (dreg1 (o := 4) ?_ rfl (cells_a _) ?_ ?_ e4 ?_ e5 ?_ e6 ?_ e7) ?_
 ·simp
 ·simp
 ·simp [g4]
 ·simp [g5]
 ·simp [g6]
 ·simp [g7]
 simp [↓subPa, g8]
 rw [e8 _ (ClB.h (by repeat (first | refine clB_sl ?_ | refine clB_ba ?_ ?_ | refine clB_bd ?_ | refine clB_o ?_ | exact clB_n _ | refine rb_set ?_ (by simp) | exact rb_d _ _)))]
 simp [fits_r, size_n, ↓mkP_eq, ↓subPa, cells_a, g9]
 rw [e9 _ (ClB.h (by repeat (first | refine clB_sl ?_ | refine clB_ba ?_ ?_ | refine clB_bd ?_ | refine clB_o ?_ | exact clB_n _ | refine rb_set ?_ (by simp) | exact rb_d _ _)))]
 simp [fits_r, size_n, ↓mkP_eq, ↓subPa, cells_a, g10]
 rw [e10 _ (ClB.h (by repeat (first | refine clB_sl ?_ | refine clB_ba ?_ ?_ | refine clB_bd ?_ | refine clB_o ?_ | exact clB_n _ | refine rb_set ?_ (by simp) | exact rb_d _ _)))]
 simp [fits_r, size_n, ↓mkP_eq, cells_a]
 refine Eq.trans (dreg2 (o := 4) ?_ rfl (cells_a _) ?_ ?_ e11 ?_ e12) ?_
 ·simp
 ·simp
 ·simp [g11]
 ·simp [g12]
 simp [fits_al, finR_ret]
 kernel_rfl
end Go.Sim
end
end
section
open Go.Sim
attribute [local simp ↓] kC_skip kC_ret kC_exit kC_seq kC_block kC_reg kC_cond kC_condc sqK blK lpK kO_nil kO_O kO_E kO_OG kO_EG grd_b grd_t tst_b brn_true brn_false brn_not chk_T b_mov b_pick b_alloc b_box b_load b_store b_bin b_un b_eqv b_faddr b_field b_iaddr b_sl b_len b_app b_call b_call1 b_callR b_ext bo_some bo_none bo2_some bo2_none bo_iaddr bo_addS bo_quo bo_rem bo_bnd bo_bnd0 ld_q0 ld_qw ld_p subP0 subPw bo_moveP bo_moveQ bo_lenl bo_lens bo_lenr bo_add bo_sub bo_mul bo_eql bo_neq bo_lss bo_leq bo_gtr bo_geq bo_neg bo_not bo_eqS bo_neS grd_nb b_slS slSK_s extK_t ownL_l fin_ret fin_norm bo_res0 bo_rest bo_resc st_p stK_box b_callv callvK_f0 callvK_f1 mkf_b subPs ld_qs kC_regS0 kC_regS1 kC_regS2 kC_regS3 kC_regS4 kC_regS5 b_eqb eqbK_b
attribute [local simp] K_refl obj_0 obj_s get_c get_n drop_c drop_n set_c set_n fix_c fix_n rd IOp.adds nadds gh nid rgK rdS ghosts_c ghosts_n packed1 packed2 purT_b purT_i purT_s purT_a purT_lt purT_lf K_ss K_ns K_sn plains_n plains_c env_val env_ref purs_n purs_d put_0 put_s
section
namespace Go.Sim
set_option maxRecDepth 10000
set_option maxHeartbeats 2000000
def idxI {α : Type} (p : α → Bool) (l : List α) : Int := match l.findIdx? p with | some j => (j : Int) | none => -1
theorem rounds_find {α R : Type} (p : α → Bool) (r : Nat → Option R) (done : Unit → Option R) (step : Nat → Unit → α → (Unit → Option R) → Option R) (hs : ∀ i b x c, step i b x c = if p x = true then r i else c ()) : ∀ (i : Nat) (ls : List α), rounds step done i () ls = match ls.findIdx? p with | some j => r (i + j) | none => done ()
 | i, [] => by simp [rounds]
 | i, x :: l => by
  rw [rounds, hs, rounds_find p r done step hs (i + 1) l, List.findIdx?_cons]
  cases h : p x with
  | true => simp
  | false =>
   simp only [Bool.false_eq_true, if_false]
   cases l.findIdx? p with
   | none => simp
   | some j => simp; congr 1; omega
section
variable {α : Type}
theorem loopIdx (T : Tab) (g : Nat) (q : K) (dv : α → DV) (p : α → Bool) (c : PV) (cs : List PV) (H0 : Heap) (hH : Cl H0) (hc : ∀ r ∈ PV.refsL (c :: cs), r < H0.length) (l : List α) (hv : ∀ x ∈ l, T.ref g (.d (dv x) :: c :: cs) H0 = some (.d (.b (p x)), H0)) (s : Bool) (hn : l.length ≤ maxLen) {k : KC (PV × Heap)} {r : Nat → Option (PV × Heap)} {fr : Fr} {H : Heap}
  (hr : ∀ (j : Nat) fr J, fr.get 4 = .d (I j) → ghosts fr = [] → k .ret fr (H0 ++ J) = r j)
  (h0 : gc [0, 1, 7, 8] H0.length ⟨fr, H⟩ = ⟨[(8, .d (I 0)), (7, .d (I l.length)), (1, .f g (c :: cs)), (0, .d (.l q (l.map dv) s))], H0⟩) :
  kC T.env H0.length fr H (.h (.loop [0, 1, 7, 8] (LidxG q), k)) = match l.findIdx? p with | some j => r j | none => k (.exit 0) [(9, .d (.b false)), (8, .d (I l.length)), (7, .d (I l.length)), (1, .f g (c :: cs)), (0, .d (.l q (l.map dv) s))] H0 := by
 rw [loop_rounds l (fun i _ => ⟨[(8, .d (I i)), (7, .d (I l.length)), (1, .f g (c :: cs)), (0, .d (.l q (l.map dv) s))], H0⟩) (fun _ _ => True) (fun i _ x c => if p x = true then r i else c ()) (fun _ => k (.exit 0) [(9, .d (.b false)), (8, .d (I l.length)), (7, .d (I l.length)), (1, .f g (c :: cs)), (0, .d (.l q (l.map dv) s))] H0) ?_ ?_ h0 trivial]
 ·rw [rounds_find p r _ _ (fun _ _ _ _ => rfl)]
  simp only [Nat.zero_add]
 ·intro B _ _ _
  simp [LidxG]
 ·intro B _ i _ hi _ cc hcc
  have hm := mxl
  have h1 : (i : Int) < l.length := by omega
  have h3 := wr1 (i := i) (by omega)
  have he := hv l[i] (List.getElem_mem hi)
  simp [LidxG, h1, hi, he]
  repeat' (refine brn_split (fun h => ?_) (fun h => ?_) <;> (try simp at h) <;> (try simp [h, h3]))
  ·simpa using hr i _ [] (by simp [Fr.get]) (by simp [ghosts, gh])
  ·refine hcc () _ _ trivial ?_
   rw [gc_low0 _ hH (by simpa [frRefs, Fr.keep, PV.refs, PV.refsL, gh] using hc)]
   simp [Fr.keep, gh]
theorem refIdx (T : Tab) {n : Nat} {q : K} (hF : T.F n = some (FidxG q)) (g : Nat) (dv : α → DV) (p : α → Bool) (c : PV) (cs : List PV) (H0 : Heap) (hH : Cl H0) (hc : ∀ r ∈ PV.refsL (c :: cs), r < H0.length) (l : List α) (hv : ∀ x ∈ l, T.ref g (.d (dv x) :: c :: cs) H0 = some (.d (.b (p x)), H0)) (s : Bool) (hn : l.length ≤ maxLen) :
  T.ref n [.d (.l q (l.map dv) s), .f g (c :: cs)] H0 = some (.d (I (idxI p l)), H0) := by
 rw [ref_k T hF rfl]
 have lp := fun k r fr H => @loopIdx α T g q dv p c cs H0 hH hc l hv s hn k r fr H
 simp [FidxG, Fr.ofArgs]
 refine (lp _ (fun j => some (.d (I j), H0)) _ _ ?_ ?_).trans ?_
 ·intro j fr J h1 h2
  simp [h1, h2, finR_ret, gcVd hH]
 ·rw [gc_low0 _ hH (by simpa [frRefs, Fr.keep, PV.refs, PV.refsL, gh] using hc)]
  simp [Fr.keep, gh]
 ·unfold idxI
  cases l.findIdx? p with
  | some j => rfl
  | none => simp [finR_ret, gcVd0 hH]
end
end Go.Sim
end
end
section
open Go.Sim
attribute [local simp ↓] kC_skip kC_ret kC_exit kC_seq kC_block kC_reg kC_cond kC_condc sqK blK lpK kO_nil kO_O kO_E kO_OG kO_EG grd_b grd_t tst_b brn_true brn_false brn_not chk_T b_mov b_pick b_alloc b_box b_load b_store b_bin b_un b_eqv b_faddr b_field b_iaddr b_sl b_len b_app b_call b_call1 b_callR b_ext bo_some bo_none bo2_some bo2_none bo_iaddr bo_addS bo_quo bo_rem bo_bnd bo_bnd0 ld_q0 ld_qw ld_p subP0 subPw bo_moveP bo_moveQ bo_lenl bo_lens bo_lenr bo_add bo_sub bo_mul bo_eql bo_neq bo_lss bo_leq bo_gtr bo_geq bo_neg bo_not bo_eqS bo_neS grd_nb b_slS slSK_s extK_t ownL_l fin_ret fin_norm bo_res0 bo_rest bo_resc st_p stK_box b_callv callvK_f0 callvK_f1 mkf_b subPs ld_qs kC_regS0 kC_regS1 kC_regS2 kC_regS3 kC_regS4 kC_regS5 b_eqb eqbK_b b_agg0 b_bsl0 b_bsl1 app_l app_r appE_n appE_r bo_lenR b_mkif mkifK_d b_tas tasK_i b_mm2 bo_mm2
attribute [local simp] K_refl obj_0 obj_s get_c get_n drop_c drop_n set_c set_n fix_c fix_n rd IOp.adds nadds gh nid rgK rdS ghosts_c ghosts_n packed1 packed2 purT_b purT_i purT_s purT_a purT_lt purT_lf K_ss K_ns K_sn plains_n plains_c env_val env_ref purs_n purs_d put_0 put_s fits_i fits_b fits_s fits_l lt0_nat fits_a purT_t pur_dv frz_n purT_r purT_f
section
namespace Go.Sim
set_option maxRecDepth 10000
set_option maxHeartbeats 4000000
def ATerms.zero : ATerms := ⟨0, 0, 0, 0, 0, 0, 0, 0, 0, 0, [], []⟩
def ALoan.zero : ALoan := ⟨0, 0, 0, 0, 0, 0, 0, 0, 0, 0, 0, ATerms.zero, ⟨[], true⟩, ⟨[], true⟩⟩
def pLo (id : Int) (a : ALoan) : Bool := a.Id == id
def findL (b : ABank) (id : Int) : Option ALoan := b.Loans.l.find? (pLo id)
theorem find_idx {α : Type} (p : α → Bool) : ∀ l : List α, l.find? p = (l.findIdx? p).bind (l[·]?)
 | [] => rfl
 | x :: l => by
  rw [List.find?_cons, List.findIdx?_cons]
  cases h : p x with
  | true => rfl
  | false =>
   simp only [Bool.false_eq_true, if_false]
   rw [find_idx p l]
   try (cases l.findIdx? p <;> rfl)
theorem rounds_hit {R α : Type} (p : α → Bool) (r : α → Option R) (done : Unit → Option R) (step : Nat → Unit → α → (Unit → Option R) → Option R) (hs : ∀ i b x c, step i b x c = if p x = true then r x else c ()) : ∀ (i : Nat) (ls : List α), rounds step done i () ls = (ls.find? p).elim (done ()) r
 | i, [] => rfl
 | i, x :: l => by
  rw [rounds, hs, List.find?_cons, rounds_hit p r done step hs (i + 1) l]
  cases h : p x <;> simp
theorem Cl_b3 (k k' k2 : K) (v w u : DV) : Cl [some (.box k (.d v)), some (.box k' (.d w)), some (.box k2 (.d u))] := fun r h => by simp [heapRefs, orefs, Obj.refs, PV.refs] at h
theorem ref93 (T : Tab) (hL : HL T) (a : ALoan) (b : ABank) (z : DV) (id : Int) : T.ref 93 [.d a.dv, .p 1 0 0] [some (.box (K1 42) (.d b.dv)), some (.box K0 (.d (I id))), some (.box (K1 25) (.d z))] = some (.d (.b (pLo id a)), [some (.box (K1 42) (.d b.dv)), some (.box K0 (.d (I id))), some (.box (K1 25) (.d z))]) := by
 rw [ref_k T (hL 93 F93 rfl) rfl]
 have hH := Cl_b3 (K1 42) K0 (K1 25) b.dv (I id) z
 simp [F93, Fr.ofArgs, finR_ret, pLo]
 exact (gcVd hH [some (.box (K1 25) (.d a.dv))] _)
theorem val79 (T : Tab) (hL : HL T) (hX : HXB T) (b : ABank) (id : Int) (hb : b.ok) (hf : b.fit) : T.val 79 [b.dv, I id] = some (.t [.d ((findL b id).getD .zero).dv, .d (.b (findL b id).isSome)], false) := by
 rw [val_k T (hL 79 F79 rfl) rfl]
 have hn : b.Loans.l.length ≤ maxLen := hb.2.2.2.2.2.1.1
 have e := fun z => refIdx T (hL 92 F92 rfl) 93 ALoan.dv (pLo id) (.p 1 0 0) [] [some (.box (K1 42) (.d b.dv)), some (.box K0 (.d (I id))), some (.box (K1 25) (.d z))] (Cl_b3 _ _ _ _ _ _) (by simp [PV.refs, PV.refsL]) b.Loans.l (fun a _ => ref93 T hL a b z id) b.Loans.t hn
 unfold idxI at e
 unfold findL
 rw [find_idx]
 cases hi : b.Loans.l.findIdx? (pLo id) with
 | none =>
  rw [hi] at e
  simp [F79, Fr.ofArgs, e]
  try rfl
 | some j =>
  rw [hi] at e
  have hj : j < b.Loans.l.length := (List.findIdx?_eq_some_iff_findIdx_eq.1 hi).1
  have h94 := val94 T hL hX b.Loans.l[j] (hf.2.2.1.2.2 _ (List.getElem_mem hj))
  simp [F79, Fr.ofArgs, e, hj, h94]
  try rfl
theorem lp80 (T : Tab) (b : ABank) (id : Int) (z : DV) (hn : b.Loans.l.length ≤ maxLen) {k : KC (PV × Bool)} {r : ALoan → Option (PV × Bool)} {fr : Fr} {H : Heap} (hr : ∀ a : ALoan, ∀ fr, fr.get 4 = .p 0 0 0 → fr.get 5 = .d (.b true) → ghosts fr = [] → k .ret fr [some (.box (K1 25) (.d a.dv)), some (.box (K1 42) (.d b.dv))] = r a)
  (h0 : gc [1, 2, 4, 6] 0 ⟨fr, H⟩ = ⟨[(6, .d (I 0)), (4, .p 0 0 0), (2, .p 1 0 0), (1, .d (I id))], [some (.box (K1 25) (.d z)), some (.box (K1 42) (.d b.dv))]⟩) :
  kC T.env 0 fr H (.h (.loop [1, 2, 4, 6] L80_0, k)) = (findL b id).elim (k (.exit 0) [(11, .d (.b false)), (6, .d (I b.Loans.l.length)), (4, .p 0 0 0), (2, .p 1 0 0), (1, .d (I id))] [some (.box (K1 25) (.d z)), some (.box (K1 42) (.d b.dv))]) r := by
 rw [loop_rounds b.Loans.l (fun i (_ : Unit) => ⟨[(6, .d (I i)), (4, .p 0 0 0), (2, .p 1 0 0), (1, .d (I id))], [some (.box (K1 25) (.d z)), some (.box (K1 42) (.d b.dv))]⟩) (fun _ _ => True) (fun i _ a c => if pLo id a = true then r a else c ()) (fun _ => k (.exit 0) [(11, .d (.b false)), (6, .d (I b.Loans.l.length)), (4, .p 0 0 0), (2, .p 1 0 0), (1, .d (I id))] [some (.box (K1 25) (.d z)), some (.box (K1 42) (.d b.dv))]) ?_ ?_ (b0 := ()) h0 trivial]
 ·exact rounds_hit (pLo id) r _ _ (fun _ _ _ _ => rfl) _ _
 ·intro B _ _ _
  simp [L80_0]
 ·intro B _ i _ hi _ c hc
  have h1 : (i : Int) < b.Loans.l.length := by omega
  have hm := mxl
  have h3 := wr1 (i := i) (by omega)
  unfold pLo
  simp [L80_0, h1, hi]
  repeat' (refine brn_split (fun h => ?_) (fun h => ?_) <;> (try simp at h) <;> (try simp [h, h1, hi, h3]))
  ·simpa using hr b.Loans.l[i] _ (by simp [Fr.get]) (by simp [Fr.get]) (by simp [ghosts, gh])
  ·refine hc () _ _ trivial ?_
   simp [gc, Fr.keep, reach, frRefs, heapRefs, PV.refs, place, gcH, orefs, Obj.refs, PV.ren, Obj.ren, Heap.obj, Fr.ren, gh, List.idxOf?_cons]
theorem val80 (T : Tab) (hL : HL T) (b : ABank) (id : Int) (hb : b.ok) : T.val 80 [b.dv, I id] = some (.t [.d ((findL b id).getD .zero).dv, .d (.b (findL b id).isSome)], false) := by
 rw [val_k T (hL 80 F80 rfl) rfl]
 have hn : b.Loans.l.length ≤ maxLen := hb.2.2.2.2.2.1.1
 have lp := fun k r fr H => @lp80 T b id ALoan.zero.dv hn k r fr H
 simp [F80, Fr.ofArgs]
 refine (lp _ (fun a => some (.t [.d a.dv, .d (.b true)], false)) _ _ ?_ ?_).trans ?_
 ·intro a fr h1 h2 h3
  simp [h1, h2, h3]
 ·simp [gc, Fr.keep, reach, frRefs, heapRefs, PV.refs, place, gcH, orefs, Obj.refs, PV.ren, Obj.ren, Heap.obj, Fr.ren, gh, List.idxOf?_cons]
  try rfl
 ·cases findL b id with
  | some a => rfl
  | none =>
   simp
   try rfl
end Go.Sim
end
section
namespace Go.Sim
set_option maxRecDepth 10000
set_option maxHeartbeats 4000000
section
variable {α : Type}
theorem loopIdxR (T : Tab) (g : Nat) (q : K) (dv : α → DV) (p : α → Bool) (c : PV) (cs : List PV) (H0 : Heap) (hH : Cl H0) (hc : ∀ r ∈ PV.refsL (c :: cs), r < H0.length) (o ro : Nat) (l : List α) (ho : H0.obj o = some (.sl q ro (l.map dv))) (hlt : o < H0.length) (hv : ∀ x ∈ l, T.ref g (.d (dv x) :: c :: cs) H0 = some (.d (.b (p x)), H0)) (s : Bool) (hn : l.length ≤ maxLen) {k : KC (PV × Heap)} {r : Nat → Option (PV × Heap)} {fr : Fr} {H : Heap}
  (hr : ∀ (j : Nat) fr J, fr.get 4 = .d (I j) → ghosts fr = [] → k .ret fr (H0 ++ J) = r j)
  (h0 : gc [0, 1, 7, 8] H0.length ⟨fr, H⟩ = ⟨[(8, .d (I 0)), (7, .d (I l.length)), (1, .f g (c :: cs)), (0, .r o q 0 l.length s)], H0⟩) :
  kC T.env H0.length fr H (.h (.loop [0, 1, 7, 8] (LidxG q), k)) = match l.findIdx? p with | some j => r j | none => k (.exit 0) [(9, .d (.b false)), (8, .d (I l.length)), (7, .d (I l.length)), (1, .f g (c :: cs)), (0, .r o q 0 l.length s)] H0 := by
 rw [loop_rounds l (fun i _ => ⟨[(8, .d (I i)), (7, .d (I l.length)), (1, .f g (c :: cs)), (0, .r o q 0 l.length s)], H0⟩) (fun _ _ => True) (fun i _ x c => if p x = true then r i else c ()) (fun _ => k (.exit 0) [(9, .d (.b false)), (8, .d (I l.length)), (7, .d (I l.length)), (1, .f g (c :: cs)), (0, .r o q 0 l.length s)] H0) ?_ ?_ h0 trivial]
 ·rw [rounds_find p r _ _ (fun _ _ _ _ => rfl)]
  simp only [Nat.zero_add]
  try (cases l.findIdx? p <;> rfl)
 ·intro B _ _ _
  simp [LidxG]
 ·intro B _ i _ hi _ cc hcc
  have hm := mxl
  have h1 : (i : Int) < l.length := by omega
  have h3 := wr1 (i := i) (by omega)
  have he := hv l[i] (List.getElem_mem hi)
  simp [LidxG, h1, hi, he, ho, ↓bo_iaR, ↓subDw]
  repeat' (refine brn_split (fun h => ?_) (fun h => ?_) <;> (try simp at h) <;> (try simp [h, h3]))
  ·simpa using hr i _ [] (by simp [Fr.get]) (by simp [ghosts, gh])
  ·refine hcc () _ _ trivial ?_
   rw [gc_low0 _ hH (by
    intro r hr
    simp [frRefs, Fr.keep, PV.refs, gh] at hr
    rcases hr with hr | hr
    ·exact hc r hr
    ·omega)]
   simp [Fr.keep, gh]
theorem refIdxR (T : Tab) {n : Nat} {q : K} (hF : T.F n = some (FidxG q)) (g : Nat) (dv : α → DV) (p : α → Bool) (c : PV) (cs : List PV) (H0 : Heap) (hH : Cl H0) (hc : ∀ r ∈ PV.refsL (c :: cs), r < H0.length) (o ro : Nat) (l : List α) (ho : H0.obj o = some (.sl q ro (l.map dv))) (hlt : o < H0.length) (hv : ∀ x ∈ l, T.ref g (.d (dv x) :: c :: cs) H0 = some (.d (.b (p x)), H0)) (s : Bool) (hn : l.length ≤ maxLen) :
  T.ref n [.r o q 0 l.length s, .f g (c :: cs)] H0 = some (.d (I (idxI p l)), H0) := by
 rw [ref_k T hF rfl]
 have lp := fun k r fr H => @loopIdxR α T g q dv p c cs H0 hH hc o ro l ho hlt hv s hn k r fr H
 simp [FidxG, Fr.ofArgs, ho]
 refine (lp _ (fun j => some (.d (I j), H0)) _ _ ?_ ?_).trans ?_
 ·intro j fr J h1 h2
  simp [h1, h2, finR_ret, gcVd hH]
 ·rw [gc_low0 _ hH (by
   intro r hr
   simp [frRefs, Fr.keep, PV.refs, gh] at hr
   rcases hr with hr | hr
   ·exact hc r hr
   ·omega)]
  simp [Fr.keep, gh]
 ·unfold idxI
  cases l.findIdx? p with
  | some j => rfl
  | none => simp [finR_ret, gcVd0 hH]
end
end Go.Sim
end
section
namespace Go.Sim
set_option maxRecDepth 10000
set_option maxHeartbeats 4000000
def pstep (l : ALoan) (s : List ALoan × Bool) (a : ALoan) : List ALoan × Bool := if pLo l.Id a && !s.2 then (s.1 ++ [l], true) else (s.1 ++ [a], s.2)
def putS (l : ALoan) (ls : List ALoan) : List ALoan × Bool := ls.foldl (pstep l) ([], false)
def putL (l : ALoan) (ls : List ALoan) : List ALoan := match ls.findIdx? (pLo l.Id) with | some j => ls.set j l | none => ls
theorem putS_d (l : ALoan) : ∀ (ls out : List ALoan), ls.foldl (pstep l) (out, true) = (out ++ ls, true)
 | [], out => by simp
 | a :: ls, out => by
  rw [List.foldl_cons]
  have : pstep l (out, true) a = (out ++ [a], true) := by simp [pstep]
  rw [this, putS_d l ls]; simp
theorem putS_n (l : ALoan) : ∀ (ls out : List ALoan), (ls.foldl (pstep l) (out, false)).1 = out ++ putL l ls
 | [], out => by simp [putL]
 | a :: ls, out => by
  rw [List.foldl_cons]
  cases h : pLo l.Id a with
  | true =>
   have : pstep l (out, false) a = (out ++ [l], true) := by simp [pstep, h]
   rw [this, putS_d l ls]
   simp [putL, List.findIdx?_cons, h]
  | false =>
   have : pstep l (out, false) a = (out ++ [a], false) := by simp [pstep, h]
   rw [this, putS_n l ls]
   simp only [putL, List.findIdx?_cons, h, Bool.false_eq_true, if_false]
   cases ls.findIdx? (pLo l.Id) with
   | none => simp
   | some j => simp
theorem putS_eq (l : ALoan) (ls : List ALoan) : (putS l ls).1 = putL l ls := (putS_n l ls []).trans (List.nil_append _)
def ABank.withLoans (b : ABank) (l : List ALoan) (t : Bool) : ABank := { b with Loans := ⟨l, t⟩ }
theorem purL_setv0 {H : Heap} {o ro : Nat} {k : K} {es : List DV} {t : Bool} : ∀ {l : List PV} {xs : List DV} {c : Nat}, PurL H l xs → H.obj o = some (.sl k ro es) → c < xs.length → PurL H (l.set c (.r o k 0 es.length t)) (xs.set c (.l k es false))
 | [], xs, c, h, _, hc => by
  obtain ⟨os, h⟩ := h
  cases h
  simp at hc
 | v :: l, xs, c, h, ho, hc => by
  obtain ⟨os, h⟩ := h
  simp only [purL] at h
  cases h1 : purC H v with
  | none => simp [h1] at h
  | some p =>
   cases h2 : purL H l with
   | none => simp [h1, h2] at h
   | some q =>
    obtain ⟨p, p'⟩ := p
    obtain ⟨q, q'⟩ := q
    simp only [h1, h2, Option.some.injEq, Prod.mk.injEq] at h
    obtain ⟨rfl, -⟩ := h
    cases c with
    | zero =>
     rw [List.set_cons_zero, List.set_cons_zero]
     exact ⟨_, by simp only [purL, purC, ho, h2, Nat.zero_add, Nat.le_refl, and_self, if_true, List.drop_zero, List.take_length]; rfl⟩
    | succ c =>
     obtain ⟨os, h3⟩ := purL_setv0 (t := t) ⟨_, h2⟩ ho (by simpa using hc)
     rw [List.set_cons_succ, List.set_cons_succ]
     exact ⟨_, by simp only [purL, h1, h3]; rfl⟩
theorem purL_setv {H : Heap} {o ro n : Nat} {k : K} {es : List DV} {t : Bool} {l : List PV} {xs : List DV} {c : Nat} (h : PurL H l xs) (ho : H.obj o = some (.sl k ro es)) (hc : c < xs.length) (hn : n = es.length) : PurL H (l.set c (.r o k 0 n t)) (xs.set c (.l k es false)) := by
 rw [hn]; exact purL_setv0 h ho hc
def zB : DV := .a [(I 0), (I 0), (.s []), (.l (K1 2) [] true), (.l (K1 3) [] true), (.l (K1 4) [] true), (I 0), (I 0), (I 0), (I 0), (I 0), (I 0), (I 0), (I 0), (I 0), (I 0), (I 0), (I 0), (I 0), (I 0), (.l (K1 19) [] true), (.l (K1 7) [] true), (.l (K1 10) [] true), (.l (K1 6) [] true), (.l (K1 7) [] true), (.l (K1 11) [] true), (.l (K1 25) [] true), (.l (K1 10) [] true), (.l (K1 7) [] true), (.l (K1 9) [] true), (.l (K1 7) [] true), (.l (K1 7) [] true), (.l (K1 3) [] true), (.l (K1 35) [] true), (.l (K1 5) [] true), (.b false), (I 0), (I 0), (I 0), (I 0), (.l (K1 3) [] true), (.l (K1 3) [] true)]
def stP (b : ABank) (l : ALoan) (z : DV) (i : Nat) : List ALoan × Bool → St
 | ([], d) => ⟨[(7, .d (I i)), (6, .d (.b d)), (5, .d (.l (K1 25) [] true)), (4, .p 0 0 0), (3, .p 1 0 0), (2, .p 2 0 0)], [some (.box (K1 42) (.d z)), some (.box (K1 25) (.d l.dv)), some (.box (K1 42) (.d b.dv))]⟩
 | (x :: o, d) => ⟨[(7, .d (I i)), (6, .d (.b d)), (5, .r 0 (K1 25) 0 (x :: o).length false), (4, .p 1 0 0), (3, .p 2 0 0), (2, .p 3 0 0)], [some (.sl (K1 25) 0 ((x :: o).map ALoan.dv)), some (.box (K1 42) (.d z)), some (.box (K1 25) (.d l.dv)), some (.box (K1 42) (.d b.dv))]⟩
theorem rounds_foldl {R α β : Type} (f : β → α → β) (done : β → Option R) (step : Nat → β → α → (β → Option R) → Option R) (hs : ∀ i b x c, step i b x c = c (f b x)) : ∀ (i : Nat) (b : β) (ls : List α), rounds step done i b ls = done (ls.foldl f b)
 | i, b, [] => rfl
 | i, b, x :: l => by rw [rounds, hs, rounds_foldl f done step hs (i + 1) _ l]; rfl
theorem lp84 (T : Tab) (b : ABank) (l : ALoan) (z : DV) (hn : b.Loans.l.length ≤ 100000) {k : KC (PV × Bool)} {_r : Option (PV × Bool)} {fr : Fr} {H : Heap}
  (hk : ∀ s : List ALoan × Bool, s.1.length = b.Loans.l.length → k (.exit 0) ((12, .d (.b false)) :: (stP b l z b.Loans.l.length s).fr) (stP b l z b.Loans.l.length s).H = some (.d (b.withLoans s.1 s.1.isEmpty).dv, false))
  (h0 : gc [2, 3, 4, 5, 6, 7] 0 ⟨fr, H⟩ = stP b l z 0 ([], false)) :
  kC T.env 0 fr H (.h (.loop [2, 3, 4, 5, 6, 7] L84_0, k)) = some (.d (b.withLoans (putS l b.Loans.l).1 (putS l b.Loans.l).1.isEmpty).dv, false) := by
 rw [loop_rounds b.Loans.l (fun i s => stP b l z i s) (fun i s => s.1.length = i) (fun _ s a c => c (pstep l s a)) (fun s => if s.1.length = b.Loans.l.length then some (.d (b.withLoans s.1 s.1.isEmpty).dv, false) else none) ?_ ?_ (b0 := ([], false)) h0 rfl]
 ·have hlen : ∀ (ls : List ALoan) (s : List ALoan × Bool), (ls.foldl (pstep l) s).1.length = s.1.length + ls.length := by
   intro ls
   induction ls with
   | nil => intro s; rfl
   | cons a ls ih => intro s; rw [List.foldl_cons, ih]; unfold pstep; split <;> simp <;> omega
  rw [rounds_foldl (pstep l) _ _ (fun _ _ _ _ => rfl)]
  exact if_pos (by simpa [putS] using hlen b.Loans.l ([], false))
 ·intro B _ s hs
  rw [if_pos hs, ← hk s hs]
  obtain ⟨o, d⟩ := s
  cases o with
  | nil => simp [L84_0, stP]
  | cons x o => simp [L84_0, stP]
 ·intro B _ i s hi hs c hc
  have hm := mxl
  have h1 : (i : Int) < b.Loans.l.length := by omega
  have h3 := wr1 (i := i) (by omega)
  have hc' := hc (pstep l s b.Loans.l[i])
  clear hc
  have hn2 : (i + 1) * 248 ≤ 140737488355328 := by omega
  obtain ⟨o, d⟩ := s
  simp only at hs
  generalize hx : b.Loans.l[i] = x at *
  have hl : (pstep l (o, d) x).1.length = i + 1 := by unfold pstep; split <;> simp <;> omega
  have hc2 := fun fr H => hc' fr H hl
  cases o with
  | nil =>
   cases hq : (x.Id == l.Id) <;> cases d <;> (simp only [stP]; simp [L84_0, h1, hi, h3, hx, hq]; exact hc2 _ _ (by simp [pstep, pLo, hq, stP, gc, Fr.keep, reach, frRefs, heapRefs, PV.refs, place, gcH, orefs, Obj.refs, PV.ren, Obj.ren, Heap.obj, Fr.ren, gh, List.idxOf?_cons]))
  | cons y o =>
   have hs2 : o.length + 1 = i := hs
   have ht : List.take o.length (o.map ALoan.dv) = o.map ALoan.dv := List.take_of_length_le (by simp)
   have hb : (o.length + 1 + 1) * 248 ≤ 140737488355328 := by rw [hs2]; exact hn2
   cases hq : (x.Id == l.Id) <;> cases d <;> (simp only [stP]; simp [L84_0, h1, hi, h3, hx, hq, hb, ht, ↓kC_regD, ↓kDq_nil, ↓kDq_O, ↓kDq_OG, ↓aftD_go, nfp_go, ↓d_mov, ↓d_pick, ↓d_load, ↓d_bin, ↓d_un, ↓d_faddr, ↓d_iaddr, accD, writeS, touchS, footD, storeD, chg, roOf, runs, pairsD, disj, PV.refs, IOp.okD, Nat.testBit]; exact hc2 _ _ (by simp [pstep, pLo, hq, stP, gc, Fr.keep, reach, frRefs, heapRefs, PV.refs, place, gcH, orefs, Obj.refs, PV.ren, Obj.ren, Heap.obj, Fr.ren, gh, List.idxOf?_cons]))
theorem val84 (T : Tab) (hL : HL T) (b : ABank) (l : ALoan) (hn : b.Loans.l.length ≤ 100000) : T.val 84 [b.dv, l.dv] = some (.d (b.withLoans (putL l b.Loans.l) (putL l b.Loans.l).isEmpty).dv, false) := by
 rw [val_k T (hL 84 F84 rfl) rfl, ← putS_eq]
 have lp := fun z k fr H => @lp84 T b l z hn k none fr H
 simp [F84, Fr.ofArgs]
 change kC _ _ _ [_, _, some (.box _ (.d zB))] _ = _
 refine lp zB _ _ _ ?_ ?_
 ·intro s hs
  obtain ⟨o, d⟩ := s
  have e1 : ∀ (y : PV → Option (PV × Bool)) (t : Bool) (v : List DV), bo (mkP (some 42) (putAt (b.dv.cells.map PV.d) 26 [.d (.l (K1 25) v t)])) (.h y) = y (.d (.a (b.dv.cells.set 26 (.l (K1 25) v t)))) := fun y t v => by
   have hl : ((b.dv.cells.set 26 (.l (K1 25) v t)).map PV.d).length = 42 := by simp
   rw [putAt_1 _ _ _ (by simp), ← List.map_set]
   simp only [mkP, hl, if_true, mkA, plains_d, bo]
  cases o with
  | nil =>
   simp only [stP]
   simp [cells_d]
   rfl
  | cons y o =>
   simp only [stP]
   simp [fits_r, size_n, ↓mkP_eq, cells_d, fits_al]
   exact (purT_al (purL_setv (purL_d _ b.dv.cells) rfl (by simp) (by simp [ABank.withLoans]))).trans rfl
 ·simp [gc, Fr.keep, reach, frRefs, heapRefs, PV.refs, place, gcH, orefs, Obj.refs, PV.ren, Obj.ren, Heap.obj, Fr.ren, gh, List.idxOf?_cons, stP]
end Go.Sim
end
section
namespace Go.Sim
set_option maxRecDepth 10000
set_option maxHeartbeats 4000000
theorem ref101 (T : Tab) (hL : HL T) (a l : ALoan) (H : Heap) (hH : Cl H) (h1 : H.obj 1 = some (.box (K1 25) (.d l.dv))) (hn : 1 < H.length) : T.ref 101 [.d a.dv, .p 1 0 0] H = some (.d (.b (pLo l.Id a)), H) := by
 rw [ref_k T (hL 101 F101 rfl) rfl]
 have h1' : ∀ J, Heap.obj (H ++ J) 1 = some (.box (K1 25) (.d l.dv)) := fun J => by
  unfold Heap.obj at h1 ⊢
  rw [List.getElem?_append_left hn]; exact h1
 simp [F101, Fr.ofArgs, finR_ret, pLo, put_app0, obj_app0, h1']
 exact (gcVd hH [some (.box (K1 25) (.d a.dv))] _)
theorem bankR_len (n : Nat) (x : ABank) : (bankR n x).length = 42 := by simp [bankR]
theorem rb_bankR (m n : Nat) (x : ABank) (h : n + 12 ≤ m) : RB m (bankR n x) := by
 unfold bankR
 repeat (first | refine rb_set ?_ (by omega) | exact rb_d _ _)
theorem bankR_26 (x : ABank) (n : Nat) (h : 26 < (bankR n x).length) : (bankR n x)[26] = .r (n + 1) (K1 25) 0 x.Loans.l.length false := by
 simp [bankR]
def putH (b : ABank) (l : ALoan) (z : DV) (ls : List DV) : Heap := [some (.box (K1 42) (.d b.dv)), some (.box (K1 25) (.d l.dv)), some (.box (K1 42) (.d z)), some (.box (K1 42) (.a (bankR 4 b)))] ++ (bankH b).set 1 (some (.sl (K1 25) 0 ls))
theorem putH_cl (b : ABank) (l : ALoan) (z : DV) (ls : List DV) : Cl (putH b l z ls) := by
 refine ClB.h (n := 16) ?_
 unfold putH bankH
 refine clB_bd (clB_bd (clB_bd (clB_ba (rb_bankR _ _ _ (by omega)) ?_)))
 simp only [List.set_cons_succ, List.set_cons_zero]
 repeat (first | refine clB_sl ?_ | exact clB_n _)
theorem pur_bankR (b : ABank) (hf : b.fit) (ls : List ALoan) (H : Heap) (hn : ls.length = b.Loans.l.length)
  (hH : ∀ i, i < 12 → H.obj (4 + i) = Heap.obj ((bankH b).set 1 (some (.sl (K1 25) 0 (ls.map ALoan.dv)))) i) : purT H (.a (bankR 4 b)) = some (.d (b.withLoans ls false).dv, false) := by
 have t0 : b.Periods.t = false := (hf.2.1).1
 have t2 : b.Orders.t = false := (hf.2.2.2.1).1
 have t3 : b.Mandates.t = false := (hf.2.2.2.2.1).1
 have t4 : b.Debits.t = false := (hf.2.2.2.2.2.1).1
 have t5 : b.Inbox.t = false := (hf.2.2.2.2.2.2.1).1
 have t6 : b.Statements.t = false := (hf.2.2.2.2.2.2.2.1).1
 have t7 : b.Users.t = false := (hf.2.2.2.2.2.2.2.2.1).1
 have t8 : b.Requests.t = false := (hf.2.2.2.2.2.2.2.2.2.1).1
 have t9 : b.Trail.t = false := (hf.2.2.2.2.2.2.2.2.2.2.1).1
 have t10 : b.Night.Avail.t = false := (hf.2.2.2.2.2.2.2.2.2.2.2.1).1
 have t11 : b.Night.Queue.t = false := (hf.2.2.2.2.2.2.2.2.2.2.2.2).1
 exact (purT_al (purL_set (purL_set (purL_set (purL_set (purL_set (purL_set (purL_set (purL_set (purL_set (purL_set (purL_setv (purL_set (purL_d _ b.dv.cells) (hH 0 (by omega)) (by rw [← t0]; rfl) (by simp)) (hH 1 (by omega)) (by simp) (by simp [hn])) (hH 2 (by omega)) (by rw [← t2]; rfl) (by simp)) (hH 3 (by omega)) (by rw [← t3]; rfl) (by simp)) (hH 4 (by omega)) (by rw [← t4]; rfl) (by simp)) (hH 5 (by omega)) (by rw [← t5]; rfl) (by simp)) (hH 6 (by omega)) (by rw [← t6]; rfl) (by simp)) (hH 7 (by omega)) (by rw [← t7]; rfl) (by simp)) (hH 8 (by omega)) (by rw [← t8]; rfl) (by simp)) (hH 9 (by omega)) (by rw [← t9]; rfl) (by simp)) (hH 10 (by omega)) (by rw [← t10]; rfl) (by simp)) (hH 11 (by omega)) (by rw [← t11]; rfl) (by simp))).trans rfl
theorem val83 (T : Tab) (hL : HL T) (hX : HXB T) (b : ABank) (l : ALoan) (hb : b.ok) (hf : b.fit) (hl : l.fit) : T.val 83 [b.dv, l.dv] = some (.d (b.withLoans (putL l b.Loans.l) false).dv, false) := by
 have hn : b.Loans.l.length ≤ maxLen := hb.2.2.2.2.2.1.1
 have e94 := val94 T hL hX l hl
 rw [val_k T (hL 83 F83 rfl) rfl]
 have hz : F83 = F83 := rfl
 conv at hz => rhs; unfold F83
 generalize (DV.a [(I 0), (I 0), (.s []), (.l (K1 2) [] true), (.l (K1 3) [] true), (.l (K1 4) [] true), (I 0), (I 0), (I 0), (I 0), (I 0), (I 0), (I 0), (I 0), (I 0), (I 0), (I 0), (I 0), (I 0), (I 0), (.l (K1 19) [] true), (.l (K1 7) [] true), (.l (K1 10) [] true), (.l (K1 6) [] true), (.l (K1 7) [] true), (.l (K1 11) [] true), (.l (K1 25) [] true), (.l (K1 10) [] true), (.l (K1 7) [] true), (.l (K1 9) [] true), (.l (K1 7) [] true), (.l (K1 7) [] true), (.l (K1 3) [] true), (.l (K1 35) [] true), (.l (K1 5) [] true), (.b false), (I 0), (I 0), (I 0), (I 0), (.l (K1 3) [] true), (.l (K1 3) [] true)]) = z at hz
 rw [hz]
 simp [Fr.ofArgs]
 rw [ref100 T hL hX b hb hf]
 have g26 := bankR_26 b 4
 have gl := bankR_len 4 b
 have hh : bankH b = (bankH b).set 1 (some (.sl (K1 25) 0 (b.Loans.l.map ALoan.dv))) := rfl
 simp [↓subPa, fits_al, gl, g26]
 have eI := fun (s : Bool) => refIdxR T (hL 92 F92 rfl) 101 ALoan.dv (pLo l.Id) (.p 1 0 0) [] (putH b l z (b.Loans.l.map ALoan.dv)) (putH_cl _ _ _ _) (by simp [PV.refs, PV.refsL, putH]) 5 0 b.Loans.l rfl (by simp [putH, bankH]) (fun a _ => ref101 T hL a l _ (putH_cl _ _ _ _) rfl (by simp [putH, bankH])) s hn
 change bo2 (T.ref 92 [.r 5 (K1 25) 0 b.Loans.l.length false, .f 101 [.p 1 0 0]] (putH b l z (b.Loans.l.map ALoan.dv))) _ = _
 rw [eI false]
 have o1 : ∀ ls, Heap.obj (putH b l z ls) 1 = some (.box (K1 25) (.d l.dv)) := fun _ => rfl
 have o3 : ∀ ls, Heap.obj (putH b l z ls) 3 = some (.box (K1 42) (.a (bankR 4 b))) := fun _ => rfl
 have o5 : ∀ ls, Heap.obj (putH b l z ls) 5 = some (.sl (K1 25) 0 ls) := fun _ => rfl
 have p5 : ∀ ls ls', Heap.put (putH b l z ls) 5 (some (.sl (K1 25) 0 ls')) = putH b l z ls' := fun _ _ => rfl
 have o2 : ∀ ls, Heap.obj (putH b l z ls) 2 = some (.box (K1 42) (.d z)) := fun _ => rfl
 have q2 : ∀ ls x, Heap.obj (Heap.put (putH b l z ls) 2 (some x)) 2 = some x := fun _ _ => rfl
 have fin : ∀ ls : List ALoan, ls.length = b.Loans.l.length → purT (Heap.put (putH b l z (ls.map ALoan.dv)) 2 (some (.box (K1 42) (.a (bankR 4 b))))) (.a (bankR 4 b)) = some (.d (b.withLoans ls false).dv, false) := fun ls h => pur_bankR b hf ls _ h (fun i _ => obj_app [_, _, _, _] _ i)
 unfold putL idxI
 cases hi : b.Loans.l.findIdx? (pLo l.Id) with
 | none =>
  have f0 := fin b.Loans.l rfl
  simp [fits_al, gl, o2, o3, q2, f0]
  try exact f0
 | some j =>
  have hj : j < b.Loans.l.length := (List.findIdx?_eq_some_iff_findIdx_eq.1 hi).1
  have f0 := fin (b.Loans.l.set j l) (by simp)
  rw [List.map_set] at f0
  simp [↓subPa, fits_al, gl, g26, o1, o2, o3, o5, p5, q2, f0, hj, e94, ↓kC_regD, ↓kDq_nil, ↓kDq_O, ↓kDq_E, ↓aftD_go, nfp_go, ↓d_mov, ↓d_load, ↓d_store, ↓d_faddr, ↓d_iaddr, ↓d_call0, accD, writeS, touchS, footD, storeD, chg, roOf, runs, pairsD, disj, PV.refs, IOp.okD, Nat.testBit, ↓bo_iaR, -st_p, ↓st_pm, ↓stM_box, ↓stM_sl]
  trace_state
  try exact f0
end Go.Sim
end
end
section
open Go.Sim
attribute [local simp ↓] kC_skip kC_ret kC_exit kC_seq kC_block kC_reg kC_cond kC_condc sqK blK lpK kO_nil kO_O kO_E kO_OG kO_EG grd_b grd_t tst_b brn_true brn_false brn_not chk_T b_mov b_pick b_alloc b_box b_load b_store b_bin b_un b_eqv b_faddr b_field b_iaddr b_sl b_len b_app b_call b_call1 b_callR b_ext bo_some bo_none bo2_some bo2_none bo_iaddr bo_addS bo_quo bo_rem bo_bnd bo_bnd0 ld_q0 ld_qw ld_p subP0 subPw bo_moveP bo_moveQ bo_lenl bo_lens bo_lenr bo_add bo_sub bo_mul bo_eql bo_neq bo_lss bo_leq bo_gtr bo_geq bo_neg bo_not bo_eqS bo_neS grd_nb b_slS slSK_s extK_t ownL_l fin_ret fin_norm bo_res0 bo_rest bo_resc st_p stK_box b_callv callvK_f0 callvK_f1 mkf_b subPs ld_qs kC_regS0 kC_regS1 kC_regS2 kC_regS3 kC_regS4 kC_regS5 b_eqb eqbK_b
attribute [local simp] K_refl obj_0 obj_s get_c get_n drop_c drop_n set_c set_n fix_c fix_n rd IOp.adds nadds gh nid rgK rdS ghosts_c ghosts_n packed1 packed2 purT_b purT_i purT_s purT_a purT_lt purT_lf K_ss K_ns K_sn plains_n plains_c env_val env_ref purs_n purs_d put_0 put_s
section
namespace Go.Sim
set_option maxRecDepth 10000
set_option maxHeartbeats 8000000
def okCal (c : ACalendar) : Bool := !(decide (40 < c.Holidays.l.length) || decide (10 < c.Weekend.l.length))
def okEnt (e : AEntry) : Bool := !decide (12 < e.Legs.l.length)
theorem lp85_0 (T : Tab) (b : ABooks) (hn : b.Calendars.l.length ≤ maxLen) {k : KC (PV × Bool)} {r : Option (PV × Bool)} {fr : Fr} {H : Heap} (hr : RetF 2 k r) (h0 : gc [1, 3] 0 ⟨fr, H⟩ = ⟨[(3, .d (I 0)), (1, .p 0 0 0)], [some (.box (K1 22) (.d b.dv))]⟩) :
  kC T.env 0 fr H (.h (.loop [1, 3] L85_0, k)) = brn (b.Calendars.l.all okCal) (.h (k (.exit 0) [(55, .d (.b false)), (3, .d (I b.Calendars.l.length)), (1, .p 0 0 0)] [some (.box (K1 22) (.d b.dv))], r)) := by
 have hm := mxl
 rw [loop_rounds b.Calendars.l (fun i _ => ⟨[(3, .d (I i)), (1, .p 0 0 0)], [some (.box (K1 22) (.d b.dv))]⟩) (fun _ _ => True) (fun i _ x c => if okCal x = true then c () else r) (fun _ => k (.exit 0) [(55, .d (.b false)), (3, .d (I b.Calendars.l.length)), (1, .p 0 0 0)] [some (.box (K1 22) (.d b.dv))]) ?_ ?_ h0 trivial]
 ·rw [rounds_all okCal r]
  ·cases b.Calendars.l.all okCal <;> rfl
  ·exact fun _ _ _ _ => rfl
 ·intro B _ _ _
  simp [L85_0]
 ·intro B _ i _ hi _ c hc
  have h1 : (i : Int) < b.Calendars.l.length := by omega
  have h3 := wr1 (i := i) (by omega)
  simp [L85_0, h1, hi]
  repeat' (refine brn_split (fun h => ?_) (fun h => ?_) <;> (try simp at h) <;> (try simp [h, h1, hi, h3]))
  all_goals first
   | (rw [if_neg (by simp [okCal]; omega)]; exact hr _ _ (by simp [Fr.get]) (by simp [ghosts, gh]))
   | (rw [if_pos (by simp [okCal]; omega)]; exact hc () _ _ trivial (by simp [gc, Fr.keep, reach, frRefs, heapRefs, PV.refs, place, gcH, orefs, Obj.refs, PV.ren, Obj.ren, Heap.obj, Fr.ren, gh, List.idxOf?_cons]))
theorem lp85_1 (T : Tab) (b : ABooks) (hn : b.Journal.l.length ≤ maxLen) {k : KC (PV × Bool)} {r : Option (PV × Bool)} {fr : Fr} {H : Heap} (hr : RetF 2 k r) (h0 : gc [1, 4] 0 ⟨fr, H⟩ = ⟨[(4, .d (I 0)), (1, .p 0 0 0)], [some (.box (K1 22) (.d b.dv))]⟩) :
  kC T.env 0 fr H (.h (.loop [1, 4] L85_1, k)) = brn (b.Journal.l.all okEnt) (.h (k (.exit 2) [(80, .d (.b false)), (4, .d (I b.Journal.l.length)), (1, .p 0 0 0)] [some (.box (K1 22) (.d b.dv))], r)) := by
 have hm := mxl
 rw [loop_rounds b.Journal.l (fun i _ => ⟨[(4, .d (I i)), (1, .p 0 0 0)], [some (.box (K1 22) (.d b.dv))]⟩) (fun _ _ => True) (fun i _ x c => if okEnt x = true then c () else r) (fun _ => k (.exit 2) [(80, .d (.b false)), (4, .d (I b.Journal.l.length)), (1, .p 0 0 0)] [some (.box (K1 22) (.d b.dv))]) ?_ ?_ h0 trivial]
 ·rw [rounds_all okEnt r]
  ·cases b.Journal.l.all okEnt <;> rfl
  ·exact fun _ _ _ _ => rfl
 ·intro B _ _ _
  simp [L85_1]
 ·intro B _ i _ hi _ c hc
  have h1 : (i : Int) < b.Journal.l.length := by omega
  have h3 := wr1 (i := i) (by omega)
  simp [L85_1, h1, hi]
  repeat' (refine brn_split (fun h => ?_) (fun h => ?_) <;> (try simp at h) <;> (try simp [h3]))
  all_goals first
   | (rw [if_neg (by simp [okEnt]; omega)]; exact hr _ _ (by simp [Fr.get]) (by simp [ghosts, gh]))
   | (rw [if_pos (by simp [okEnt]; omega)]; exact hc () _ _ trivial (by simp [gc, Fr.keep, reach, frRefs, heapRefs, PV.refs, place, gcH, orefs, Obj.refs, PV.ren, Obj.ren, Heap.obj, Fr.ren, gh, List.idxOf?_cons]))
def bFew (b : ABooks) : Bool := !(decide (8 < b.Accounts.l.length) || decide (90 < b.Journal.l.length) || decide (40 < b.Chart.l.length) || decide (12 < b.Products.l.length) || decide (4 < b.Calendars.l.length) || decide (20 < b.Holds.l.length) || decide (20 < b.Blocks.l.length) || decide (8 < b.Currencies.l.length)) && (b.Calendars.l.all okCal && b.Journal.l.all okEnt)
theorem val85 (T : Tab) (hF : T.F 85 = some F85) (b : ABooks) (hb : b.ok) : T.val 85 [b.dv] = some (.d (.b (bFew b)), false) := by
 rw [val_k T hF rfl]
 have lp0 := fun k fr H => @lp85_0 T b (hb.2.1).1 k (some (.d (.b false), false)) fr H
 have lp1 := fun k fr H => @lp85_1 T b (hb.2.2.2.2.2.2.1).1 k (some (.d (.b false), false)) fr H
 obtain ⟨q0, hq0⟩ : ∃ q, b.Calendars.l.all okCal = q := ⟨_, rfl⟩
 obtain ⟨q1, hq1⟩ : ∃ q, b.Journal.l.all okEnt = q := ⟨_, rfl⟩
 simp only [hq0] at lp0
 simp only [hq1] at lp1
 have hs : bFew b = (!(decide (8 < b.Accounts.l.length) || decide (90 < b.Journal.l.length) || decide (40 < b.Chart.l.length) || decide (12 < b.Products.l.length) || decide (4 < b.Calendars.l.length) || decide (20 < b.Holds.l.length) || decide (20 < b.Blocks.l.length) || decide (8 < b.Currencies.l.length)) && (q0 && q1)) := by rw [bFew, hq0, hq1]
 clear hq0 hq1
 simp [F85, Fr.ofArgs]
 repeat' first
  | (refine brn_split (fun h => ?_) (fun h => ?_) <;> (try simp at h) <;> (try simp [h]))
  | refine (lp0 _ _ _ (by simp [RetF_bl, RetF_sq, RetF_fin]) (by simp [gc, Fr.keep, reach, frRefs, heapRefs, PV.refs, place, gcH, orefs, Obj.refs, PV.ren, Obj.ren, Heap.obj, Fr.ren, gh, List.idxOf?_cons])).trans ?_
  | refine (lp1 _ _ _ (by simp [RetF_bl, RetF_sq, RetF_fin]) (by simp [gc, Fr.keep, reach, frRefs, heapRefs, PV.refs, place, gcH, orefs, Obj.refs, PV.ren, Obj.ren, Heap.obj, Fr.ren, gh, List.idxOf?_cons])).trans ?_
 all_goals simp_all
 all_goals omega
end Go.Sim
end
section
namespace Go.Sim
set_option maxRecDepth 10000
set_option maxHeartbeats 8000000
def dayOK (b : ABank) : Bool := decide (0 ≤ b.Day) && decide (b.Day ≤ 73048)
def okAcc (b : ABank) (a : AAccount) : Bool := !(decide (0 ≤ a.Opened) && decide (a.Opened < b.Day - 800))
def okPe1 (b : ABank) (p : APeriod) : Bool := !decide (b.Day + 400 < p.To)
def okPe2 (p : APeriod) : Bool := !decide (1099511627776 < p.Count)
def okLn (l : ALoan) : Bool := !(decide (60 < l.Dues.l.length) || decide (10 < l.Changes.l.length))
theorem lp77_0 (T : Tab) (b : ABank) (hn : b.Books.Accounts.l.length ≤ maxLen) {k : KC (PV × Bool)} {r r1 : Option (PV × Bool)} {fr : Fr} {H : Heap} (hr : RetF 2 k r) (he : ∀ i : Nat, k (.exit 0) [(101, .d (.b false)), (3, .d (I i)), (1, .p 0 0 0)] [some (.box (K1 42) (.d b.dv))] = r1) (h0 : gc [1, 3] 0 ⟨fr, H⟩ = ⟨[(3, .d (I 0)), (1, .p 0 0 0)], [some (.box (K1 42) (.d b.dv))]⟩) :
  kC T.env 0 fr H (.h (.loop [1, 3] L77_0, k)) = brn (!dayOK b || b.Books.Accounts.l.all (okAcc b)) (.h (r1, r)) := by
 have hm := mxl
 by_cases hd : dayOK b = true
 ·have hd' := hd
  simp only [dayOK, Bool.and_eq_true, decide_eq_true_eq] at hd'
  obtain ⟨hd1, hd2⟩ := hd'
  rw [loop_rounds b.Books.Accounts.l (fun i _ => ⟨[(3, .d (I i)), (1, .p 0 0 0)], [some (.box (K1 42) (.d b.dv))]⟩) (fun _ _ => True) (fun i _ x c => if okAcc b x = true then c () else r) (fun _ => r1) ?_ ?_ h0 trivial]
  ·rw [rounds_all (okAcc b) r, hd]
   ·cases b.Books.Accounts.l.all (okAcc b) <;> rfl
   ·exact fun _ _ _ _ => rfl
  ·intro B _ _ _
   simp [L77_0, he]
  ·intro B _ i _ hi _ c hc
   have h1 : (i : Int) < b.Books.Accounts.l.length := by omega
   have h3 := wr1 (i := i) (by omega)
   have h4 : IntKind.i64.wrap (b.Day - 800) = b.Day - 800 := wrI (by omega) (by omega)
   have h5 : IntKind.i64.wrap (b.Day + 400) = b.Day + 400 := wrI (by omega) (by omega)
   simp [L77_0, hd1, hd2, h1, hi]
   repeat' (refine brn_split (fun h => ?_) (fun h => ?_) <;> (try simp at h) <;> (try simp [h, h3, h4]))
   all_goals first
    | (rw [if_neg (by simp [okAcc]; omega)]; exact hr _ _ (by simp [Fr.get]) (by simp [ghosts, gh]))
    | (rw [if_pos (by simp [okAcc]; omega)]; exact hc () _ _ trivial (by simp [gc, Fr.keep, reach, frRefs, heapRefs, PV.refs, place, gcH, orefs, Obj.refs, PV.ren, Obj.ren, Heap.obj, Fr.ren, gh, List.idxOf?_cons]))
 ·have hd' : dayOK b = false := by simpa using hd
  rw [kC_loop, h0, hd']
  simp only [dayOK, Bool.and_eq_false_iff, decide_eq_false_iff_not] at hd'
  have he0 := he 0
  simp [L77_0]
  repeat' (refine brn_split (fun h => ?_) (fun h => ?_) <;> (try simp at h) <;> (try simp [h]))
  all_goals first
   | exact he0
   | (simpa using he0)
   | (exfalso; omega)
theorem lp77_1 (T : Tab) (b : ABank) (hn : b.Periods.l.length ≤ maxLen) {k : KC (PV × Bool)} {r r1 : Option (PV × Bool)} {fr : Fr} {H : Heap} (hr : RetF 2 k r) (he : ∀ i : Nat, k (.exit 2) [(134, .d (.b false)), (5, .d (I i)), (1, .p 0 0 0)] [some (.box (K1 42) (.d b.dv))] = r1) (h0 : gc [1, 5] 0 ⟨fr, H⟩ = ⟨[(5, .d (I 0)), (1, .p 0 0 0)], [some (.box (K1 42) (.d b.dv))]⟩) :
  kC T.env 0 fr H (.h (.loop [1, 5] L77_1, k)) = brn (!dayOK b || b.Periods.l.all (okPe1 b)) (.h (r1, r)) := by
 have hm := mxl
 by_cases hd : dayOK b = true
 ·have hd' := hd
  simp only [dayOK, Bool.and_eq_true, decide_eq_true_eq] at hd'
  obtain ⟨hd1, hd2⟩ := hd'
  rw [loop_rounds b.Periods.l (fun i _ => ⟨[(5, .d (I i)), (1, .p 0 0 0)], [some (.box (K1 42) (.d b.dv))]⟩) (fun _ _ => True) (fun i _ x c => if okPe1 b x = true then c () else r) (fun _ => r1) ?_ ?_ h0 trivial]
  ·rw [rounds_all (okPe1 b) r, hd]
   ·cases b.Periods.l.all (okPe1 b) <;> rfl
   ·exact fun _ _ _ _ => rfl
  ·intro B _ _ _
   simp [L77_1, he]
  ·intro B _ i _ hi _ c hc
   have h1 : (i : Int) < b.Periods.l.length := by omega
   have h3 := wr1 (i := i) (by omega)
   have h4 : IntKind.i64.wrap (b.Day - 800) = b.Day - 800 := wrI (by omega) (by omega)
   have h5 : IntKind.i64.wrap (b.Day + 400) = b.Day + 400 := wrI (by omega) (by omega)
   simp [L77_1, hd1, hd2, h1, hi, h5]
   repeat' (refine brn_split (fun h => ?_) (fun h => ?_) <;> (try simp at h) <;> (try simp [h3]))
   all_goals first
    | (rw [if_neg (by simp [okPe1]; omega)]; exact hr _ _ (by simp [Fr.get]) (by simp [ghosts, gh]))
    | (rw [if_pos (by simp [okPe1]; omega)]; exact hc () _ _ trivial (by simp [gc, Fr.keep, reach, frRefs, heapRefs, PV.refs, place, gcH, orefs, Obj.refs, PV.ren, Obj.ren, Heap.obj, Fr.ren, gh, List.idxOf?_cons]))
 ·have hd' : dayOK b = false := by simpa using hd
  rw [kC_loop, h0, hd']
  simp only [dayOK, Bool.and_eq_false_iff, decide_eq_false_iff_not] at hd'
  have he0 := he 0
  simp [L77_1]
  repeat' (refine brn_split (fun h => ?_) (fun h => ?_) <;> (try simp at h) <;> (try simp [h]))
  all_goals first
   | exact he0
   | (simpa using he0)
   | (exfalso; omega)
theorem lp77_2 (T : Tab) (b : ABank) (hn : b.Periods.l.length ≤ maxLen) {k : KC (PV × Bool)} {r : Option (PV × Bool)} {fr : Fr} {H : Heap} (hr : RetF 2 k r) (h0 : gc [1, 6] 0 ⟨fr, H⟩ = ⟨[(6, .d (I 0)), (1, .p 0 0 0)], [some (.box (K1 42) (.d b.dv))]⟩) :
  kC T.env 0 fr H (.h (.loop [1, 6] L77_2, k)) = brn (b.Periods.l.all okPe2) (.h (k (.exit 4) [(151, .d (.b false)), (6, .d (I b.Periods.l.length)), (1, .p 0 0 0)] [some (.box (K1 42) (.d b.dv))], r)) := by
 have hm := mxl
 rw [loop_rounds b.Periods.l (fun i _ => ⟨[(6, .d (I i)), (1, .p 0 0 0)], [some (.box (K1 42) (.d b.dv))]⟩) (fun _ _ => True) (fun i _ x c => if okPe2 x = true then c () else r) (fun _ => k (.exit 4) [(151, .d (.b false)), (6, .d (I b.Periods.l.length)), (1, .p 0 0 0)] [some (.box (K1 42) (.d b.dv))]) ?_ ?_ h0 trivial]
 ·rw [rounds_all okPe2 r]
  ·cases b.Periods.l.all okPe2 <;> rfl
  ·exact fun _ _ _ _ => rfl
 ·intro B _ _ _
  simp [L77_2]
 ·intro B _ i _ hi _ c hc
  have h1 : (i : Int) < b.Periods.l.length := by omega
  have h3 := wr1 (i := i) (by omega)
  simp [L77_2, h1, hi]
  repeat' (refine brn_split (fun h => ?_) (fun h => ?_) <;> (try simp at h) <;> (try simp [h3]))
  all_goals first
   | (rw [if_neg (by simp [okPe2]; omega)]; exact hr _ _ (by simp [Fr.get]) (by simp [ghosts, gh]))
   | (rw [if_pos (by simp [okPe2]; omega)]; exact hc () _ _ trivial (by simp [gc, Fr.keep, reach, frRefs, heapRefs, PV.refs, place, gcH, orefs, Obj.refs, PV.ren, Obj.ren, Heap.obj, Fr.ren, gh, List.idxOf?_cons]))
theorem lp77_3 (T : Tab) (b : ABank) (hn : b.Loans.l.length ≤ maxLen) {k : KC (PV × Bool)} {r : Option (PV × Bool)} {fr : Fr} {H : Heap} (hr : RetF 2 k r) (h0 : gc [1, 7] 0 ⟨fr, H⟩ = ⟨[(7, .d (I 0)), (1, .p 0 0 0)], [some (.box (K1 42) (.d b.dv))]⟩) :
  kC T.env 0 fr H (.h (.loop [1, 7] L77_3, k)) = brn (b.Loans.l.all okLn) (.h (k (.exit 6) [(169, .d (.b false)), (7, .d (I b.Loans.l.length)), (1, .p 0 0 0)] [some (.box (K1 42) (.d b.dv))], r)) := by
 have hm := mxl
 rw [loop_rounds b.Loans.l (fun i _ => ⟨[(7, .d (I i)), (1, .p 0 0 0)], [some (.box (K1 42) (.d b.dv))]⟩) (fun _ _ => True) (fun i _ x c => if okLn x = true then c () else r) (fun _ => k (.exit 6) [(169, .d (.b false)), (7, .d (I b.Loans.l.length)), (1, .p 0 0 0)] [some (.box (K1 42) (.d b.dv))]) ?_ ?_ h0 trivial]
 ·rw [rounds_all okLn r]
  ·cases b.Loans.l.all okLn <;> rfl
  ·exact fun _ _ _ _ => rfl
 ·intro B _ _ _
  simp [L77_3]
 ·intro B _ i _ hi _ c hc
  have h1 : (i : Int) < b.Loans.l.length := by omega
  have h3 := wr1 (i := i) (by omega)
  simp [L77_3, h1, hi]
  repeat' (refine brn_split (fun h => ?_) (fun h => ?_) <;> (try simp at h) <;> (try simp [h, h1, hi, h3]))
  all_goals first
   | (rw [if_neg (by simp [okLn]; omega)]; exact hr _ _ (by simp [Fr.get]) (by simp [ghosts, gh]))
   | (rw [if_pos (by simp [okLn]; omega)]; exact hc () _ _ trivial (by simp [gc, Fr.keep, reach, frRefs, heapRefs, PV.refs, place, gcH, orefs, Obj.refs, PV.ren, Obj.ren, Heap.obj, Fr.ren, gh, List.idxOf?_cons]))
end Go.Sim
end
section
namespace Go.Sim
set_option maxRecDepth 10000
set_option maxHeartbeats 8000000
def smHead (x : ABank) : Bool := !(!bFew x.Books || decide (60 < x.Periods.l.length) || decide (8 < x.Loans.l.length) || decide (20 < x.Orders.l.length) || decide (20 < x.Mandates.l.length) || decide (20 < x.Debits.l.length) || decide (20 < x.Inbox.l.length) || decide (40 < x.Statements.l.length) || decide (20 < x.Users.l.length) || decide (20 < x.Requests.l.length) || decide (90 < x.Trail.l.length) || decide (20 < x.Night.Avail.l.length) || decide (20 < x.Night.Queue.l.length))
def sm3 (x : ABank) : Bool := x.Loans.l.all okLn
def sm2 (x : ABank) : Bool := x.Periods.l.all okPe2 && (!decide (1099511627776 < x.Run.Restarts) && sm3 x)
def sm1 (x : ABank) : Bool := (!dayOK x || x.Periods.l.all (okPe1 x)) && sm2 x
def sm0 (x : ABank) : Bool := (!dayOK x || x.Books.Accounts.l.all (okAcc x)) && sm1 x
def bSmall (x : ABank) : Bool := smHead x && sm0 x
theorem brn_and {a b : Bool} : brn a (.h (some (PV.d (.b b), false), some (PV.d (.b false), false))) = some (PV.d (.b (a && b)), false) := by cases a <;> rfl
theorem brn_an {a b : Bool} {x : Option (PV × Bool)} (h : x = some (PV.d (.b b), false)) : brn a (.h (x, some (PV.d (.b false), false))) = some (PV.d (.b (a && b)), false) := by subst h; exact brn_and
theorem val77 (T : Tab) (hF : T.F 77 = some F77) (hG : T.F 85 = some F85) (x : ABank) (hx : x.ok) : T.val 77 [x.dv] = some (.d (.b (bSmall x)), false) := by
 rw [val_k T hF rfl]
 have d0 := val85 T hG x.Books hx.2.2.2.1
 have lp0 := fun k fr H => @lp77_0 T x (hx.2.2.2.1.2.2.2.2.2.1).1 k (some (.d (.b false), false)) (some (.d (.b (sm1 x)), false)) fr H
 have lp1 := fun k fr H => @lp77_1 T x (hx.2.2.2.2.1).1 k (some (.d (.b false), false)) (some (.d (.b (sm2 x)), false)) fr H
 have lp2 := fun k fr H => @lp77_2 T x (hx.2.2.2.2.1).1 k (some (.d (.b false), false)) fr H
 have lp3 := fun k fr H => @lp77_3 T x (hx.2.2.2.2.2.1).1 k (some (.d (.b false), false)) fr H
 simp [F77, Fr.ofArgs, d0]
 repeat' (refine brn_split (fun h => ?_) (fun h => ?_) <;> (try simp at h) <;> (try simp [h]))
 all_goals (try (simp_all [bSmall, smHead]; done))
 all_goals (try (simp_all [bSmall, smHead]; omega))
 have hh : smHead x = true := by
  simp_all [smHead]
  try omega
 rw [bSmall, hh, Bool.true_and, sm0]
 refine (lp0 _ _ _ (by simp [RetF_bl, RetF_sq, RetF_fin]) (fun i => ?_) (by simp [gc, Fr.keep, reach, frRefs, heapRefs, PV.refs, place, gcH, orefs, Obj.refs, PV.ren, Obj.ren, Heap.obj, Fr.ren, gh, List.idxOf?_cons])).trans brn_and
 simp
 rw [sm1]
 refine (lp1 _ _ _ (by simp [RetF_bl, RetF_sq, RetF_fin]) (fun i => ?_) (by simp [gc, Fr.keep, reach, frRefs, heapRefs, PV.refs, place, gcH, orefs, Obj.refs, PV.ren, Obj.ren, Heap.obj, Fr.ren, gh, List.idxOf?_cons])).trans brn_and
 simp
 rw [sm2]
 refine (lp2 _ _ _ (by simp [RetF_bl, RetF_sq, RetF_fin]) (by simp [gc, Fr.keep, reach, frRefs, heapRefs, PV.refs, place, gcH, orefs, Obj.refs, PV.ren, Obj.ren, Heap.obj, Fr.ren, gh, List.idxOf?_cons])).trans ?_
 refine brn_an ?_
 simp
 refine brn_split (fun h => ?_) (fun h => ?_)
 ·simp at h
  simp [h]
 ·simp at h
  have h' : ¬ (1099511627776 < x.Run.Restarts) := by omega
  simp [h']
  refine (lp3 _ _ _ (by simp [RetF_bl, RetF_sq, RetF_fin]) (by simp [gc, Fr.keep, reach, frRefs, heapRefs, PV.refs, place, gcH, orefs, Obj.refs, PV.ren, Obj.ren, Heap.obj, Fr.ren, gh, List.idxOf?_cons])).trans ?_
  rw [sm3]
  have e := fun (X : Option (PV × Bool)) (h : X = some (PV.d (.b true), false)) => @brn_an (x.Loans.l.all okLn) true X h
  simp only [Bool.and_true] at e
  refine e _ ?_
  simp
end Go.Sim
end
section
namespace Go.Sim
set_option maxRecDepth 10000
set_option maxHeartbeats 8000000
theorem val142 (T : Tab) (hT : ∀ n F, tabC.get n = some F → T.F n = some F) (x y : AStatement) (hx : x.ok) : T.val 142 [x.dv, y.dv] = some (.d (.b (AStatement.beq x y)), false) := by
 rw [val_k T (hT 142 F142 rfl) rfl]
 by_cases hl0 : x.Lines.l.length = y.Lines.l.length
 rotate_left
 ·have hl0' : ((x.Lines.l.length : Int) == (y.Lines.l.length : Int)) = false := by simp; omega
  simp [F142, Fr.ofArgs, bne]
  repeat' (refine brn_split (fun h => ?_) (fun h => ?_) <;> (try simp at h) <;> (try simp [h, hl0', bne]))
  all_goals simp_all [AStatement.beq, ibq, lsb_len _ _ hl0]
 obtain ⟨z0, hx0, hy0⟩ := zip_of x.Lines.l y.Lines.l hl0
 have hn0 : z0.length ≤ maxLen := by have := (hx.2.2.2.2.2.2).1; rw [hx0] at this; simpa using this
 have lp0 := fun k fr H => @lp142_0 T x y z0 hx0 hy0 hn0 k (some (.d (.b false), false)) fr H
 have hz0 : lsb APosting.beq x.Lines.l y.Lines.l = z0.all fun p => APosting.beq p.1 p.2 := by rw [hx0, hy0, lsb_zip]
 obtain ⟨q0, hq0⟩ : ∃ q, (z0.all fun p => APosting.beq p.1 p.2) = q := ⟨_, rfl⟩
 simp only [hq0] at lp0 hz0
 clear hq0
 simp [F142, Fr.ofArgs]
 repeat' first
  | (refine brn_split (fun h => ?_) (fun h => ?_) <;> (try simp at h) <;> (try simp [h, hx0, hy0]))
  | refine (lp0 _ _ _ (by simp [RetF_bl, RetF_sq, RetF_fin]) (by simp [gc, Fr.keep, reach, frRefs, heapRefs, PV.refs, place, gcH, orefs, Obj.refs, PV.ren, Obj.ren, Heap.obj, Fr.ren, gh, List.idxOf?_cons])).trans ?_
 all_goals simp_all [AStatement.beq, ibq]
end Go.Sim
end
end
section
namespace Go.Sim
def bqBk (x y : ABooks) : Bool := lsb ACurrency.beq x.Currencies.l y.Currencies.l && lsb AGl.beq x.Chart.l y.Chart.l && APlan.beq x.Plan y.Plan && lsb ACalendar.beq x.Calendars.l y.Calendars.l && lsb AProduct.beq x.Products.l y.Products.l
def bqOr (x y : ABank) : Bool := lsb AOrder.beq x.Orders.l y.Orders.l && lsb AMandate.beq x.Mandates.l y.Mandates.l && lsb ADebit.beq x.Debits.l y.Debits.l && lsb AMessage.beq x.Inbox.l y.Inbox.l
def bqPe (x y : ABank) : Bool := lsb APeriod.beq x.Periods.l y.Periods.l && lsb ALoan.beq x.Loans.l y.Loans.l && lsb AStatement.beq x.Statements.l y.Statements.l && bqOr x y
def bqUs (x y : ABank) : Bool := lsb AUser.beq x.Users.l y.Users.l && lsb ARequest.beq x.Requests.l y.Requests.l && ANight.beq x.Night y.Night && lsb AMark.beq x.Trail.l y.Trail.l
end Go.Sim
end
section
open Go.Sim
attribute [local simp ↓] kC_skip kC_ret kC_exit kC_seq kC_block kC_reg kC_cond kC_condc sqK blK lpK kO_nil kO_O kO_E kO_OG kO_EG grd_b grd_t tst_b brn_true brn_false brn_not chk_T b_mov b_pick b_alloc b_box b_load b_store b_bin b_un b_eqv b_faddr b_field b_iaddr b_sl b_len b_app b_call b_call1 b_callR b_ext bo_some bo_none bo2_some bo2_none bo_iaddr bo_addS bo_quo bo_rem bo_bnd bo_bnd0 ld_q0 ld_qw ld_p subP0 subPw bo_moveP bo_moveQ bo_lenl bo_lens bo_lenr bo_add bo_sub bo_mul bo_eql bo_neq bo_lss bo_leq bo_gtr bo_geq bo_neg bo_not bo_eqS bo_neS grd_nb b_slS slSK_s extK_t ownL_l fin_ret fin_norm bo_res0 bo_rest bo_resc st_p stK_box b_callv callvK_f0 callvK_f1 mkf_b subPs ld_qs kC_regS0 kC_regS1 kC_regS2 kC_regS3 kC_regS4 kC_regS5 b_eqb eqbK_b
attribute [local simp] K_refl obj_0 obj_s get_c get_n drop_c drop_n set_c set_n fix_c fix_n rd IOp.adds nadds gh nid rgK rdS ghosts_c ghosts_n packed1 packed2 purT_b purT_i purT_s purT_a purT_lt purT_lf K_ss K_ns K_sn plains_n plains_c env_val env_ref purs_n purs_d put_0 put_s
section
namespace Go.Sim
set_option maxRecDepth 10000
set_option maxHeartbeats 8000000
theorem val143 (T : Tab) (hT : ∀ n F, tabC.get n = some F → T.F n = some F) (x y : ABank) (hx : x.ok) : T.val 143 [x.dv, y.dv] = some (.d (.b (bqOr x y)), false) := by
 rw [val_k T (hT 143 F143 rfl) rfl]
 by_cases hl0 : x.Orders.l.length = y.Orders.l.length
 rotate_left
 ·have hl0' : ((x.Orders.l.length : Int) == (y.Orders.l.length : Int)) = false := by simp; omega
  simp [F143, Fr.ofArgs, hl0', bne]
  repeat' (refine brn_split (fun h => ?_) (fun h => ?_) <;> (try simp at h) <;> (try simp [h, hl0, hl0', bne]))
  all_goals simp_all [bqOr, lsb_len _ _ hl0]
 by_cases hl1 : x.Mandates.l.length = y.Mandates.l.length
 rotate_left
 ·have hl1' : ((x.Mandates.l.length : Int) == (y.Mandates.l.length : Int)) = false := by simp; omega
  simp [F143, Fr.ofArgs, bne]
  repeat' (refine brn_split (fun h => ?_) (fun h => ?_) <;> (try simp at h) <;> (try simp [h, hl1', bne]))
  all_goals simp_all [bqOr, lsb_len _ _ hl1]
 by_cases hl2 : x.Debits.l.length = y.Debits.l.length
 rotate_left
 ·have hl2' : ((x.Debits.l.length : Int) == (y.Debits.l.length : Int)) = false := by simp; omega
  simp [F143, Fr.ofArgs, bne]
  repeat' (refine brn_split (fun h => ?_) (fun h => ?_) <;> (try simp at h) <;> (try simp [h, hl2', bne]))
  all_goals simp_all [bqOr, lsb_len _ _ hl2]
 by_cases hl3 : x.Inbox.l.length = y.Inbox.l.length
 rotate_left
 ·have hl3' : ((x.Inbox.l.length : Int) == (y.Inbox.l.length : Int)) = false := by simp; omega
  simp [F143, Fr.ofArgs, bne]
  repeat' (refine brn_split (fun h => ?_) (fun h => ?_) <;> (try simp at h) <;> (try simp [h, hl3', bne]))
  all_goals simp_all [bqOr, lsb_len _ _ hl3]
 obtain ⟨z0, hx0, hy0⟩ := zip_of x.Orders.l y.Orders.l hl0
 have hn0 : z0.length ≤ maxLen := by have := (hx.2.2.2.2.2.2.1).1; rw [hx0] at this; simpa using this
 have lp0 := fun k fr H => @lp143_0 T x y z0 hx0 hy0 hn0 k (some (.d (.b false), false)) fr H
 have hz0 : lsb AOrder.beq x.Orders.l y.Orders.l = z0.all fun p => AOrder.beq p.1 p.2 := by rw [hx0, hy0, lsb_zip]
 obtain ⟨q0, hq0⟩ : ∃ q, (z0.all fun p => AOrder.beq p.1 p.2) = q := ⟨_, rfl⟩
 simp only [hq0] at lp0 hz0
 clear hq0
 obtain ⟨z1, hx1, hy1⟩ := zip_of x.Mandates.l y.Mandates.l hl1
 have hn1 : z1.length ≤ maxLen := by have := (hx.2.2.2.2.2.2.2.1).1; rw [hx1] at this; simpa using this
 have lp1 := fun k fr H => @lp143_1 T x y z1 hx1 hy1 hn1 k (some (.d (.b false), false)) fr H
 have hz1 : lsb AMandate.beq x.Mandates.l y.Mandates.l = z1.all fun p => AMandate.beq p.1 p.2 := by rw [hx1, hy1, lsb_zip]
 obtain ⟨q1, hq1⟩ : ∃ q, (z1.all fun p => AMandate.beq p.1 p.2) = q := ⟨_, rfl⟩
 simp only [hq1] at lp1 hz1
 clear hq1
 obtain ⟨z2, hx2, hy2⟩ := zip_of x.Debits.l y.Debits.l hl2
 have hn2 : z2.length ≤ maxLen := by have := (hx.2.2.2.2.2.2.2.2.1).1; rw [hx2] at this; simpa using this
 have lp2 := fun k fr H => @lp143_2 T x y z2 hx2 hy2 hn2 k (some (.d (.b false), false)) fr H
 have hz2 : lsb ADebit.beq x.Debits.l y.Debits.l = z2.all fun p => ADebit.beq p.1 p.2 := by rw [hx2, hy2, lsb_zip]
 obtain ⟨q2, hq2⟩ : ∃ q, (z2.all fun p => ADebit.beq p.1 p.2) = q := ⟨_, rfl⟩
 simp only [hq2] at lp2 hz2
 clear hq2
 obtain ⟨z3, hx3, hy3⟩ := zip_of x.Inbox.l y.Inbox.l hl3
 have hn3 : z3.length ≤ maxLen := by have := (hx.2.2.2.2.2.2.2.2.2.1).1; rw [hx3] at this; simpa using this
 have lp3 := fun k fr H => @lp143_3 T x y z3 hx3 hy3 hn3 k (some (.d (.b false), false)) fr H
 have hz3 : lsb AMessage.beq x.Inbox.l y.Inbox.l = z3.all fun p => AMessage.beq p.1 p.2 := by rw [hx3, hy3, lsb_zip]
 obtain ⟨q3, hq3⟩ : ∃ q, (z3.all fun p => AMessage.beq p.1 p.2) = q := ⟨_, rfl⟩
 simp only [hq3] at lp3 hz3
 clear hq3
 simp [F143, Fr.ofArgs, hx0, hy0, hx1, hy1, hx2, hy2, hx3, hy3]
 repeat' first
  | (refine brn_split (fun h => ?_) (fun h => ?_) <;> (try simp at h) <;> (try simp))
  | refine (lp0 _ _ _ (by simp [RetF_bl, RetF_sq, RetF_fin]) (by simp [gc, Fr.keep, reach, frRefs, heapRefs, PV.refs, place, gcH, orefs, Obj.refs, PV.ren, Obj.ren, Heap.obj, Fr.ren, gh, List.idxOf?_cons])).trans ?_
  | refine (lp1 _ _ _ (by simp [RetF_bl, RetF_sq, RetF_fin]) (by simp [gc, Fr.keep, reach, frRefs, heapRefs, PV.refs, place, gcH, orefs, Obj.refs, PV.ren, Obj.ren, Heap.obj, Fr.ren, gh, List.idxOf?_cons])).trans ?_
  | refine (lp2 _ _ _ (by simp [RetF_bl, RetF_sq, RetF_fin]) (by simp [gc, Fr.keep, reach, frRefs, heapRefs, PV.refs, place, gcH, orefs, Obj.refs, PV.ren, Obj.ren, Heap.obj, Fr.ren, gh, List.idxOf?_cons])).trans ?_
  | refine (lp3 _ _ _ (by simp [RetF_bl, RetF_sq, RetF_fin]) (by simp [gc, Fr.keep, reach, frRefs, heapRefs, PV.refs, place, gcH, orefs, Obj.refs, PV.ren, Obj.ren, Heap.obj, Fr.ren, gh, List.idxOf?_cons])).trans ?_
 all_goals simp_all [bqOr]
end Go.Sim
end
section
namespace Go.Sim
set_option maxRecDepth 10000
set_option maxHeartbeats 8000000
theorem val81 (T : Tab) (hT : ∀ n F, tabC.get n = some F → T.F n = some F) (x y : ALoan) (hx : x.ok) : T.val 81 [x.dv, y.dv] = some (.d (.b (ALoan.beq x y)), false) := by
 rw [val_k T (hT 81 F81 rfl) rfl]
 have d0 := val95 T (hT 95 F95 rfl) x.Dues.l y.Dues.l x.Dues.t y.Dues.t (hx.2.2.2.2.2.2.2.2.2.2.2.2.1).1
 have d1 := val96 T (hT 96 F96 rfl) x.Changes.l y.Changes.l x.Changes.t y.Changes.t (hx.2.2.2.2.2.2.2.2.2.2.2.2.2).1
 have e85 : eqA [1, 1, 1, 1, 1, 1, 1, 1, 1, 1, 3, 3] (.d x.Terms.dv) (.d y.Terms.dv) = some (ATerms.beq x.Terms y.Terms) := by
  simp [eqA, eqL, eqK, ATerms.dv, ATerms.beq, ibq, sbq, Bool.and_assoc]
 simp [F81, Fr.ofArgs]
 repeat' (refine brn_split (fun h => ?_) (fun h => ?_) <;> (try simp at h) <;> (try simp [h, d0, d1, e85]))
 all_goals simp_all [ALoan.beq, ibq]
end Go.Sim
end
section
namespace Go.Sim
set_option maxRecDepth 10000
set_option maxHeartbeats 8000000
theorem val98 (T : Tab) (hT : ∀ n F, tabC.get n = some F → T.F n = some F) (x y : ABank) (hx : x.ok) : T.val 98 [x.dv, y.dv] = some (.d (.b (bqPe x y)), false) := by
 rw [val_k T (hT 98 F98 rfl) rfl]
 have d0 := val141 T (hT 141 F141 rfl) x.Periods.l y.Periods.l x.Periods.t y.Periods.t (hx.2.2.2.2.1).1
 have d1 := val143 T hT x y hx
 by_cases hl0 : x.Loans.l.length = y.Loans.l.length
 rotate_left
 ·have hl0' : ((x.Loans.l.length : Int) == (y.Loans.l.length : Int)) = false := by simp; omega
  simp [F98, Fr.ofArgs, d0]
  repeat' (refine brn_split (fun h => ?_) (fun h => ?_) <;> (try simp at h) <;> (try simp [h, hl0', bne]))
  all_goals simp_all [bqPe, lsb_len _ _ hl0]
 by_cases hl1 : x.Statements.l.length = y.Statements.l.length
 rotate_left
 ·have hl1' : ((x.Statements.l.length : Int) == (y.Statements.l.length : Int)) = false := by simp; omega
  simp [F98, Fr.ofArgs, d0]
  repeat' (refine brn_split (fun h => ?_) (fun h => ?_) <;> (try simp at h) <;> (try simp [h, hl1', bne]))
  all_goals simp_all [bqPe, lsb_len _ _ hl1]
 obtain ⟨z0, hx0, hy0⟩ := zip_of x.Loans.l y.Loans.l hl0
 have hn0 : z0.length ≤ maxLen := by have := (hx.2.2.2.2.2.1).1; rw [hx0] at this; simpa using this
 have lp0 := fun k fr H => @lp98_0 T x y z0 hx0 hy0 (fun p hp => val81 T hT p.1 p.2 ((hx.2.2.2.2.2.1).2 p.1 (by rw [hx0]; exact List.mem_map_of_mem hp))) hn0 k (some (.d (.b false), false)) fr H
 have hz0 : lsb ALoan.beq x.Loans.l y.Loans.l = z0.all fun p => ALoan.beq p.1 p.2 := by rw [hx0, hy0, lsb_zip]
 obtain ⟨q0, hq0⟩ : ∃ q, (z0.all fun p => ALoan.beq p.1 p.2) = q := ⟨_, rfl⟩
 simp only [hq0] at lp0 hz0
 clear hq0
 obtain ⟨z1, hx1, hy1⟩ := zip_of x.Statements.l y.Statements.l hl1
 have hn1 : z1.length ≤ maxLen := by have := (hx.2.2.2.2.2.2.2.2.2.2.1).1; rw [hx1] at this; simpa using this
 have lp1 := fun k fr H => @lp98_1 T x y z1 hx1 hy1 (fun p hp => val142 T hT p.1 p.2 ((hx.2.2.2.2.2.2.2.2.2.2.1).2 p.1 (by rw [hx1]; exact List.mem_map_of_mem hp))) hn1 k (some (.d (.b false), false)) fr H
 have hz1 : lsb AStatement.beq x.Statements.l y.Statements.l = z1.all fun p => AStatement.beq p.1 p.2 := by rw [hx1, hy1, lsb_zip]
 obtain ⟨q1, hq1⟩ : ∃ q, (z1.all fun p => AStatement.beq p.1 p.2) = q := ⟨_, rfl⟩
 simp only [hq1] at lp1 hz1
 clear hq1
 simp [F98, Fr.ofArgs, d0]
 repeat' first
  | (refine brn_split (fun h => ?_) (fun h => ?_) <;> (try simp at h) <;> (try simp [h, d1, hx0, hy0, hx1, hy1]))
  | refine (lp0 _ _ _ (by simp [RetF_bl, RetF_sq, RetF_fin]) (by simp [gc, Fr.keep, reach, frRefs, heapRefs, PV.refs, place, gcH, orefs, Obj.refs, PV.ren, Obj.ren, Heap.obj, Fr.ren, gh, List.idxOf?_cons])).trans ?_
  | refine (lp1 _ _ _ (by simp [RetF_bl, RetF_sq, RetF_fin]) (by simp [gc, Fr.keep, reach, frRefs, heapRefs, PV.refs, place, gcH, orefs, Obj.refs, PV.ren, Obj.ren, Heap.obj, Fr.ren, gh, List.idxOf?_cons])).trans ?_
 all_goals simp_all [bqPe]
end Go.Sim
end
section
namespace Go.Sim
set_option maxRecDepth 10000
set_option maxHeartbeats 8000000
theorem val144 (T : Tab) (hT : ∀ n F, tabC.get n = some F → T.F n = some F) (x y : ACommand) (hx : x.ok) : T.val 144 [x.dv, y.dv] = some (.d (.b (ACommand.beq x y)), false) := by
 rw [val_k T (hT 144 F144 rfl) rfl]
 have e71 : eqA [1, 1, 1, 1, 1, 1, 1, 1, 1, 1, 3, 3] (.d x.Terms.dv) (.d y.Terms.dv) = some (ATerms.beq x.Terms y.Terms) := by
  simp [eqA, eqL, eqK, ATerms.dv, ATerms.beq, ibq, sbq, Bool.and_assoc]
 have e77 : eqA [3, 1, 1, 1, 1, 1, 3] (.d x.Message.dv) (.d y.Message.dv) = some (AMessage.beq x.Message y.Message) := by
  simp [eqA, eqL, eqK, AMessage.dv, AMessage.beq, ibq, sbq, Bool.and_assoc]
 by_cases hl0 : x.Crashes.l.length = y.Crashes.l.length
 rotate_left
 ·have hl0' : ((x.Crashes.l.length : Int) == (y.Crashes.l.length : Int)) = false := by simp; omega
  simp [F144, Fr.ofArgs, bne]
  repeat' (refine brn_split (fun h => ?_) (fun h => ?_) <;> (try simp at h) <;> (try simp [h, e71, e77, hl0', bne]))
  all_goals simp_all [ACommand.beq, ibq, sbq, lsb_len _ _ hl0]
 obtain ⟨z0, hx0, hy0⟩ := zip_of x.Crashes.l y.Crashes.l hl0
 have hn0 : z0.length ≤ maxLen := by have := (hx.2.2.2.2.2.2.2.2.2.2.2).1; rw [hx0] at this; simpa using this
 have lp0 := fun k fr H => @lp144_0 T x y z0 hx0 hy0 hn0 k (some (.d (.b false), false)) fr H
 have hz0 : lsb ibq x.Crashes.l y.Crashes.l = z0.all fun p => ibq p.1 p.2 := by rw [hx0, hy0, lsb_zip]
 obtain ⟨q0, hq0⟩ : ∃ q, (z0.all fun p => ibq p.1 p.2) = q := ⟨_, rfl⟩
 simp only [hq0] at lp0 hz0
 clear hq0
 simp [F144, Fr.ofArgs]
 repeat' first
  | (refine brn_split (fun h => ?_) (fun h => ?_) <;> (try simp at h) <;> (try simp [h, e71, e77, hx0, hy0]))
  | refine (lp0 _ _ _ (by simp [RetF_bl, RetF_sq, RetF_fin]) (by simp [gc, Fr.keep, reach, frRefs, heapRefs, PV.refs, place, gcH, orefs, Obj.refs, PV.ren, Obj.ren, Heap.obj, Fr.ren, gh, List.idxOf?_cons])).trans ?_
 all_goals simp_all [ACommand.beq, ibq, sbq]
end Go.Sim
end
section
namespace Go.Sim
set_option maxRecDepth 10000
set_option maxHeartbeats 8000000
theorem lp99_1 (T : Tab) (hT : ∀ n F, tabC.get n = some F → T.F n = some F) (x y : ABank) (z : List (ARequest × ARequest)) (hx : x.Requests.l = z.map Prod.fst) (hy : y.Requests.l = z.map Prod.snd) (hz : ∀ p ∈ z, p.1.ok) (hn : z.length ≤ maxLen) {k : KC (PV × Bool)} {r : Option (PV × Bool)} {fr : Fr} {H : Heap} (hr : RetF 4 k r) (h0 : gc [2, 3, 6] 0 ⟨fr, H⟩ = ⟨[(6, .d (I 0)), (3, .p 0 0 0), (2, .p 1 0 0)], [some (.box (K1 42) (.d y.dv)), some (.box (K1 42) (.d x.dv))]⟩) :
  kC T.env 0 fr H (.h (.loop [2, 3, 6] L99_1, k)) = brn (z.all fun p => ARequest.beq p.1 p.2) (.h (k (.exit 2) [(89, .d (.b false)), (6, .d (I z.length)), (3, .p 0 0 0), (2, .p 1 0 0)] [some (.box (K1 42) (.d y.dv)), some (.box (K1 42) (.d x.dv))], r)) := by
 have hm := mxl
 rw [loop_rounds z (fun i _ => ⟨[(6, .d (I i)), (3, .p 0 0 0), (2, .p 1 0 0)], [some (.box (K1 42) (.d y.dv)), some (.box (K1 42) (.d x.dv))]⟩) (fun _ _ => True) (fun i _ p c => if ARequest.beq p.1 p.2 = true then c () else r) (fun _ => k (.exit 2) [(89, .d (.b false)), (6, .d (I z.length)), (3, .p 0 0 0), (2, .p 1 0 0)] [some (.box (K1 42) (.d y.dv)), some (.box (K1 42) (.d x.dv))]) ?_ ?_ h0 trivial]
 ·rw [rounds_all (fun p => ARequest.beq p.1 p.2) r]
  ·cases z.all fun p => ARequest.beq p.1 p.2 <;> rfl
  ·exact fun _ _ _ _ => rfl
 ·intro B _ _ _
  simp [L99_1, hx]
 ·intro B _ i _ hi _ c hc
  have h1 : (i : Int) < z.length := by omega
  have h3 := wr1 (i := i) (by omega)
  have he := val144 T hT z[i].1.Command z[i].2.Command (hz z[i] (List.getElem_mem hi)).2.2.2.2.2.2
  simp [L99_1, h1, hi, hx, hy, ↓kC_regD, ↓kDq_nil, ↓kDq_O, ↓kDq_E, ↓aftD_go, nfp_go, ↓d_mov, ↓d_alloc, ↓d_load, ↓d_store, ↓d_faddr, ↓d_iaddr, accD, writeS, touchS, footD, storeD, chg, roOf, runs, pairsD, disj, PV.refs, IOp.okD, Nat.testBit]
  repeat' (refine brn_split (fun h => ?_) (fun h => ?_) <;> (try simp at h) <;> (try simp [h, h3, he]))
  all_goals first
   | exact hr _ _ (by simp [Fr.get]) (by simp [ghosts, gh])
   | (simp_all [ARequest.beq, ibq, sbq]; done)
   | (refine (hc () _ _ trivial (by simp [gc, Fr.keep, reach, frRefs, heapRefs, PV.refs, place, gcH, orefs, Obj.refs, PV.ren, Obj.ren, Heap.obj, Fr.ren, gh, List.idxOf?_cons])).trans ?_; simp_all [ARequest.beq, ibq, sbq]; done)
   | (refine (hr _ _ (by simp [Fr.get]) (by simp [ghosts, gh])).trans ?_; simp_all [ARequest.beq, ibq, sbq]; done)
end Go.Sim
end
section
namespace Go.Sim
set_option maxRecDepth 10000
set_option maxHeartbeats 8000000
theorem val99 (T : Tab) (hT : ∀ n F, tabC.get n = some F → T.F n = some F) (x y : ABank) (hx : x.ok) : T.val 99 [x.dv, y.dv] = some (.d (.b (bqUs x y)), false) := by
 rw [val_k T (hT 99 F99 rfl) rfl]
 have d0 := val145 T (hT 145 F145 rfl) x.Trail.l y.Trail.l x.Trail.t y.Trail.t (hx.2.2.2.2.2.2.2.2.2.2.2.2.2.1).1
 by_cases hl0 : x.Users.l.length = y.Users.l.length
 rotate_left
 ·have hl0' : ((x.Users.l.length : Int) == (y.Users.l.length : Int)) = false := by simp; omega
  simp [F99, Fr.ofArgs, hl0', bne]
  repeat' (refine brn_split (fun h => ?_) (fun h => ?_) <;> (try simp at h) <;> (try simp [h, d0, hl0, hl0', bne]))
  all_goals simp_all [bqUs, ANight.beq, ibq, lsb_len _ _ hl0]
 by_cases hl1 : x.Requests.l.length = y.Requests.l.length
 rotate_left
 ·have hl1' : ((x.Requests.l.length : Int) == (y.Requests.l.length : Int)) = false := by simp; omega
  simp [F99, Fr.ofArgs, bne]
  repeat' (refine brn_split (fun h => ?_) (fun h => ?_) <;> (try simp at h) <;> (try simp [h, hl1', bne]))
  all_goals simp_all [bqUs, ANight.beq, ibq, lsb_len _ _ hl1]
 by_cases hl2 : x.Night.Avail.l.length = y.Night.Avail.l.length
 rotate_left
 ·have hl2' : ((x.Night.Avail.l.length : Int) == (y.Night.Avail.l.length : Int)) = false := by simp; omega
  simp [F99, Fr.ofArgs, bne]
  repeat' (refine brn_split (fun h => ?_) (fun h => ?_) <;> (try simp at h) <;> (try simp [h, hl2', bne]))
  all_goals simp_all [bqUs, ANight.beq, ibq, lsb_len _ _ hl2]
 by_cases hl3 : x.Night.Queue.l.length = y.Night.Queue.l.length
 rotate_left
 ·have hl3' : ((x.Night.Queue.l.length : Int) == (y.Night.Queue.l.length : Int)) = false := by simp; omega
  simp [F99, Fr.ofArgs, bne]
  repeat' (refine brn_split (fun h => ?_) (fun h => ?_) <;> (try simp at h) <;> (try simp [h, hl3', bne]))
  all_goals simp_all [bqUs, ANight.beq, ibq, lsb_len _ _ hl3]
 by_cases hl9 : x.Trail.l.length = y.Trail.l.length
 rotate_left
 ·have hl9' : ((x.Trail.l.length : Int) == (y.Trail.l.length : Int)) = false := by simp; omega
  simp [F99, Fr.ofArgs, bne]
  repeat' (refine brn_split (fun h => ?_) (fun h => ?_) <;> (try simp at h) <;> (try simp [h, hl9', bne]))
  all_goals simp_all [bqUs, ANight.beq, ibq, lsb_len _ _ hl9]
 obtain ⟨z0, hx0, hy0⟩ := zip_of x.Users.l y.Users.l hl0
 have hn0 : z0.length ≤ maxLen := by have := (hx.2.2.2.2.2.2.2.2.2.2.2.1).1; rw [hx0] at this; simpa using this
 have lp0 := fun k fr H => @lp99_0 T x y z0 hx0 hy0 hn0 k (some (.d (.b false), false)) fr H
 have hz0 : lsb AUser.beq x.Users.l y.Users.l = z0.all fun p => AUser.beq p.1 p.2 := by rw [hx0, hy0, lsb_zip]
 obtain ⟨q0, hq0⟩ : ∃ q, (z0.all fun p => AUser.beq p.1 p.2) = q := ⟨_, rfl⟩
 simp only [hq0] at lp0 hz0
 clear hq0
 obtain ⟨z1, hx1, hy1⟩ := zip_of x.Requests.l y.Requests.l hl1
 have hn1 : z1.length ≤ maxLen := by have := (hx.2.2.2.2.2.2.2.2.2.2.2.2.1).1; rw [hx1] at this; simpa using this
 have lp1 := fun k fr H => @lp99_1 T hT x y z1 hx1 hy1 (fun p hp => (hx.2.2.2.2.2.2.2.2.2.2.2.2.1).2 p.1 (by rw [hx1]; exact List.mem_map_of_mem hp)) hn1 k (some (.d (.b false), false)) fr H
 have hz1 : lsb ARequest.beq x.Requests.l y.Requests.l = z1.all fun p => ARequest.beq p.1 p.2 := by rw [hx1, hy1, lsb_zip]
 obtain ⟨q1, hq1⟩ : ∃ q, (z1.all fun p => ARequest.beq p.1 p.2) = q := ⟨_, rfl⟩
 simp only [hq1] at lp1 hz1
 clear hq1
 obtain ⟨z2, hx2, hy2⟩ := zip_of x.Night.Avail.l y.Night.Avail.l hl2
 have hn2 : z2.length ≤ maxLen := by have := (hx.2.2.2.2.2.2.2.2.2.2.2.2.2.2.2.2.1).1; rw [hx2] at this; simpa using this
 have lp2 := fun k fr H => @lp99_2 T x y z2 hx2 hy2 hn2 k (some (.d (.b false), false)) fr H
 have hz2 : lsb AAvail.beq x.Night.Avail.l y.Night.Avail.l = z2.all fun p => AAvail.beq p.1 p.2 := by rw [hx2, hy2, lsb_zip]
 obtain ⟨q2, hq2⟩ : ∃ q, (z2.all fun p => AAvail.beq p.1 p.2) = q := ⟨_, rfl⟩
 simp only [hq2] at lp2 hz2
 clear hq2
 obtain ⟨z3, hx3, hy3⟩ := zip_of x.Night.Queue.l y.Night.Queue.l hl3
 have hn3 : z3.length ≤ maxLen := by have := (hx.2.2.2.2.2.2.2.2.2.2.2.2.2.2.2.2.2).1; rw [hx3] at this; simpa using this
 have lp3 := fun k fr H => @lp99_3 T x y z3 hx3 hy3 hn3 k (some (.d (.b false), false)) fr H
 have hz3 : lsb AWait.beq x.Night.Queue.l y.Night.Queue.l = z3.all fun p => AWait.beq p.1 p.2 := by rw [hx3, hy3, lsb_zip]
 obtain ⟨q3, hq3⟩ : ∃ q, (z3.all fun p => AWait.beq p.1 p.2) = q := ⟨_, rfl⟩
 simp only [hq3] at lp3 hz3
 clear hq3
 simp [F99, Fr.ofArgs, hl9, hx0, hy0, hx1, hy1]
 repeat' first
  | (refine brn_split (fun h => ?_) (fun h => ?_) <;> (try simp at h) <;> (try simp [h, d0, hl9, hx0, hy0, hx1, hy1, hx2, hy2, hx3, hy3]))
  | refine (lp0 _ _ _ (by simp [RetF_bl, RetF_sq, RetF_fin]) (by simp [gc, Fr.keep, reach, frRefs, heapRefs, PV.refs, place, gcH, orefs, Obj.refs, PV.ren, Obj.ren, Heap.obj, Fr.ren, gh, List.idxOf?_cons])).trans ?_
  | refine (lp1 _ _ _ (by simp [RetF_bl, RetF_sq, RetF_fin]) (by simp [gc, Fr.keep, reach, frRefs, heapRefs, PV.refs, place, gcH, orefs, Obj.refs, PV.ren, Obj.ren, Heap.obj, Fr.ren, gh, List.idxOf?_cons])).trans ?_
  | refine (lp2 _ _ _ (by simp [RetF_bl, RetF_sq, RetF_fin]) (by simp [gc, Fr.keep, reach, frRefs, heapRefs, PV.refs, place, gcH, orefs, Obj.refs, PV.ren, Obj.ren, Heap.obj, Fr.ren, gh, List.idxOf?_cons])).trans ?_
  | refine (lp3 _ _ _ (by simp [RetF_bl, RetF_sq, RetF_fin]) (by simp [gc, Fr.keep, reach, frRefs, heapRefs, PV.refs, place, gcH, orefs, Obj.refs, PV.ren, Obj.ren, Heap.obj, Fr.ren, gh, List.idxOf?_cons])).trans ?_
 all_goals simp_all [bqUs, ANight.beq, ibq]
end Go.Sim
end
section
namespace Go.Sim
set_option maxRecDepth 10000
set_option maxHeartbeats 8000000
theorem val301 (T : Tab) (hT : ∀ n F, tabC.get n = some F → T.F n = some F) (x y : AInterest) (hx : x.ok) : T.val 301 [x.dv, y.dv] = some (.d (.b (AInterest.beq x y)), false) := by
 rw [val_k T (hT 301 F301 rfl) rfl]
 by_cases hl0 : x.Tiers.l.length = y.Tiers.l.length
 rotate_left
 ·have hl0' : ((x.Tiers.l.length : Int) == (y.Tiers.l.length : Int)) = false := by simp; omega
  simp [F301, Fr.ofArgs, hl0', bne]
  repeat' (refine brn_split (fun h => ?_) (fun h => ?_) <;> (try simp at h) <;> (try simp [h, hl0, hl0', bne]))
  all_goals simp_all [AInterest.beq, ibq, bbq, lsb_len _ _ hl0]
 obtain ⟨z0, hx0, hy0⟩ := zip_of x.Tiers.l y.Tiers.l hl0
 have hn0 : z0.length ≤ maxLen := by have := (hx.1).1; rw [hx0] at this; simpa using this
 have lp0 := fun k fr H => @lp301_0 T x y z0 hx0 hy0 hn0 k (some (.d (.b false), false)) fr H
 have hz0 : lsb ATier.beq x.Tiers.l y.Tiers.l = z0.all fun p => ATier.beq p.1 p.2 := by rw [hx0, hy0, lsb_zip]
 obtain ⟨q0, hq0⟩ : ∃ q, (z0.all fun p => ATier.beq p.1 p.2) = q := ⟨_, rfl⟩
 simp only [hq0] at lp0 hz0
 clear hq0
 simp [F301, Fr.ofArgs, hx0, hy0]
 repeat' first
  | (refine brn_split (fun h => ?_) (fun h => ?_) <;> (try simp at h) <;> (try simp [h, hx0, hy0]))
  | refine (lp0 _ _ _ (by simp [RetF_bl, RetF_sq, RetF_fin]) (by simp [gc, Fr.keep, reach, frRefs, heapRefs, PV.refs, place, gcH, orefs, Obj.refs, PV.ren, Obj.ren, Heap.obj, Fr.ren, gh, List.idxOf?_cons])).trans ?_
 all_goals simp_all [AInterest.beq, ibq, bbq]
end Go.Sim
end
section
namespace Go.Sim
set_option maxRecDepth 10000
set_option maxHeartbeats 4000000
theorem lp303_0 (T : Tab) (x y : AExpr) (z : List (AExpr × AExpr)) (hx : x.Args.l = (z.map Prod.fst).map AExpr.dv) (hy : y.Args.l = (z.map Prod.snd).map AExpr.dv) (hv : ∀ p ∈ z, T.val 303 [AExpr.dv p.1, AExpr.dv p.2] = some (.d (.b (AExpr.beq p.1 p.2)), false)) (hn : z.length ≤ maxLen) {k : KC (PV × Bool)} {r : Option (PV × Bool)} {fr : Fr} {H : Heap} (hr : RetF 4 k r) (h0 : gc [2, 3, 5] 0 ⟨fr, H⟩ = ⟨[(5, .d (I 0)), (3, .p 0 0 0), (2, .p 1 0 0)], [some (.box (K1 4) (.d y.dv)), some (.box (K1 4) (.d x.dv))]⟩) :
  kC T.env 0 fr H (.h (.loop [2, 3, 5] L303_0, k)) = brn (z.all fun p => AExpr.beq p.1 p.2) (.h (k (.exit 0) [(38, .d (.b false)), (5, .d (I z.length)), (3, .p 0 0 0), (2, .p 1 0 0)] [some (.box (K1 4) (.d y.dv)), some (.box (K1 4) (.d x.dv))], r)) := by
 have hm := mxl
 rw [loop_rounds z (fun i _ => ⟨[(5, .d (I i)), (3, .p 0 0 0), (2, .p 1 0 0)], [some (.box (K1 4) (.d y.dv)), some (.box (K1 4) (.d x.dv))]⟩) (fun _ _ => True) (fun i _ p c => if AExpr.beq p.1 p.2 = true then c () else r) (fun _ => k (.exit 0) [(38, .d (.b false)), (5, .d (I z.length)), (3, .p 0 0 0), (2, .p 1 0 0)] [some (.box (K1 4) (.d y.dv)), some (.box (K1 4) (.d x.dv))]) ?_ ?_ h0 trivial]
 ·rw [rounds_all (fun p => AExpr.beq p.1 p.2) r]
  ·cases z.all fun p => AExpr.beq p.1 p.2 <;> rfl
  ·exact fun _ _ _ _ => rfl
 ·intro B _ _ _
  simp [L303_0, hx]
 ·intro B _ i _ hi _ c hc
  have h1 : (i : Int) < z.length := by omega
  have h3 := wr1 (i := i) (by omega)
  have he := hv z[i] (List.getElem_mem hi)
  simp [L303_0, h1, hi, he, hx, hy]
  repeat' (refine brn_split (fun h => ?_) (fun h => ?_) <;> (try simp at h) <;> (try simp [h, h3]))
  all_goals first
   | exact hr _ _ (by simp [Fr.get]) (by simp [ghosts, gh])
   | exact hc () _ _ trivial (by simp [gc, Fr.keep, reach, frRefs, heapRefs, PV.refs, place, gcH, orefs, Obj.refs, PV.ren, Obj.ren, Heap.obj, Fr.ren, gh, List.idxOf?_cons])
theorem val303_n (T : Tab) (hT : ∀ n F, tabC.get n = some F → T.F n = some F) : ∀ (n : Nat) (x y : AExpr), SizeOf.sizeOf x.dv < n → x.ok → y.ok → T.val 303 [x.dv, y.dv] = some (.d (.b (AExpr.beq x y)), false)
 | 0, _, _, h, _, _ => absurd h (Nat.not_lt_zero _)
 | n + 1, x, y, hs, hx, hy => by
  obtain ⟨hlen, l, hl, hlo⟩ := axs_of hx.2.2.2
  obtain ⟨_, m, hm, hmo⟩ := axs_of hy.2.2.2
  rw [val_k T (hT 303 F303 rfl) rfl]
  by_cases hll : l.length = m.length
  rotate_left
  ·have hll' : ((l.length : Int) == (m.length : Int)) = false := by simp; omega
   simp [F303, Fr.ofArgs, bne]
   repeat' (refine brn_split (fun h => ?_) (fun h => ?_) <;> (try simp at h) <;> (try simp [h, hl, hm, hll', bne]))
   all_goals simp_all [AExpr.beq, ibq, sbq, deqL_dv, lsb_len _ _ hll]
  obtain ⟨z, rfl, rfl⟩ := zip_of l m hll
  have hn : z.length ≤ maxLen := by rw [hl] at hlen; simpa using hlen
  have lp := fun k fr H => @lp303_0 T x y z hl hm (fun p hp => val303_n T hT n p.1 p.2 (by have := arg_lt (x := x) (a := p.1) (by rw [hl]; exact List.mem_map_of_mem (List.mem_map_of_mem hp)); omega) (hlo _ (List.mem_map_of_mem hp)) (hmo _ (List.mem_map_of_mem hp))) hn k (some (.d (.b false), false)) fr H
  have hz : deqL x.Args.l y.Args.l = z.all fun p => AExpr.beq p.1 p.2 := by rw [hl, hm, deqL_dv, lsb_zip]
  obtain ⟨q, hq⟩ : ∃ q, (z.all fun p => AExpr.beq p.1 p.2) = q := ⟨_, rfl⟩
  simp only [hq] at lp hz
  clear hq
  simp [F303, Fr.ofArgs]
  repeat' first
   | (refine brn_split (fun h => ?_) (fun h => ?_) <;> (try simp at h) <;> (try simp [h, hl, hm]))
   | refine (lp _ _ _ (by simp [RetF_bl, RetF_sq, RetF_fin]) (by simp [gc, Fr.keep, reach, frRefs, heapRefs, PV.refs, place, gcH, orefs, Obj.refs, PV.ren, Obj.ren, Heap.obj, Fr.ren, gh, List.idxOf?_cons])).trans ?_
  all_goals simp_all [AExpr.beq, ibq, sbq]
theorem val303 (T : Tab) (hT : ∀ n F, tabC.get n = some F → T.F n = some F) (x y : AExpr) (hx : x.ok) (hy : y.ok) : T.val 303 [x.dv, y.dv] = some (.d (.b (AExpr.beq x y)), false) := val303_n T hT _ x y (Nat.lt_succ_self _) hx hy
end Go.Sim
end
section
namespace Go.Sim
set_option maxRecDepth 10000
set_option maxHeartbeats 8000000
theorem lp224_0 (T : Tab) (hT : ∀ n F, tabC.get n = some F → T.F n = some F) (x y : AProduct) (z : List (ARule × ARule)) (hx : x.Rules.l = z.map Prod.fst) (hy : y.Rules.l = z.map Prod.snd) (ho : ∀ p ∈ z, p.1.ok ∧ p.2.ok) (hn : z.length ≤ maxLen) {k : KC (PV × Bool)} {r : Option (PV × Bool)} {fr : Fr} {H : Heap} (hr : RetF 4 k r) (h0 : gc [2, 3, 5] 0 ⟨fr, H⟩ = ⟨[(5, .d (I 0)), (3, .p 0 0 0), (2, .p 1 0 0)], [some (.box (K1 19) (.d y.dv)), some (.box (K1 19) (.d x.dv))]⟩) :
  kC T.env 0 fr H (.h (.loop [2, 3, 5] L224_0, k)) = brn (z.all fun p => ARule.beq p.1 p.2) (.h (k (.exit 0) [(88, .d (.b false)), (5, .d (I z.length)), (3, .p 0 0 0), (2, .p 1 0 0)] [some (.box (K1 19) (.d y.dv)), some (.box (K1 19) (.d x.dv))], r)) := by
 have hm := mxl
 rw [loop_rounds z (fun i _ => ⟨[(5, .d (I i)), (3, .p 0 0 0), (2, .p 1 0 0)], [some (.box (K1 19) (.d y.dv)), some (.box (K1 19) (.d x.dv))]⟩) (fun _ _ => True) (fun i _ p c => if ARule.beq p.1 p.2 = true then c () else r) (fun _ => k (.exit 0) [(88, .d (.b false)), (5, .d (I z.length)), (3, .p 0 0 0), (2, .p 1 0 0)] [some (.box (K1 19) (.d y.dv)), some (.box (K1 19) (.d x.dv))]) ?_ ?_ h0 trivial]
 ·rw [rounds_all (fun p => ARule.beq p.1 p.2) r]
  ·cases z.all fun p => ARule.beq p.1 p.2 <;> rfl
  ·exact fun _ _ _ _ => rfl
 ·intro B _ _ _
  simp [L224_0, hx]
 ·intro B _ i _ hi _ c hc
  have h1 : (i : Int) < z.length := by omega
  have h3 := wr1 (i := i) (by omega)
  obtain ⟨o1, o2⟩ := ho z[i] (List.getElem_mem hi)
  have e0 := val303 T hT z[i].1.Amount z[i].2.Amount o1.2.2 o2.2.2
  simp [L224_0, h1, hi, hx, hy]
  repeat' (refine brn_split (fun h => ?_) (fun h => ?_) <;> (try simp at h) <;> (try simp [h, h1, hi, h3, e0, ARule.beq, ibq, sbq, hx, hy]))
  all_goals first
   | exact hr _ _ (by simp [Fr.get]) (by simp [ghosts, gh])
   | exact hc () _ _ trivial (by simp [gc, Fr.keep, reach, frRefs, heapRefs, PV.refs, place, gcH, orefs, Obj.refs, PV.ren, Obj.ren, Heap.obj, Fr.ren, gh, List.idxOf?_cons])
   | (simp_all [ARule.beq, ibq, sbq, bbq]; first | exact hr _ _ (by simp [Fr.get]) (by simp [ghosts, gh]) | exact hc () _ _ trivial (by simp [gc, Fr.keep, reach, frRefs, heapRefs, PV.refs, PV.refsL, place, gcH, orefs, Obj.refs, PV.ren, PV.renL, Obj.ren, Heap.obj, Fr.ren, gh, List.idxOf?_cons]))
end Go.Sim
end
section
namespace Go.Sim
set_option maxRecDepth 10000
set_option maxHeartbeats 8000000
theorem lp223_0 (T : Tab) (hT : ∀ n F, tabC.get n = some F → T.F n = some F) (z : List (ACalendar × ACalendar)) (s t : Bool) (ho : ∀ p ∈ z, p.1.ok ∧ p.2.ok) (hn : z.length ≤ maxLen) {k : KC (PV × Bool)} {r : Option (PV × Bool)} {fr : Fr} {H : Heap} (hr : RetF 4 k r) (h0 : gc [0, 1, 5] 0 ⟨fr, H⟩ = ⟨[(5, .d (I 0)), (1, .d (.l (K1 3) ((z.map Prod.snd).map ACalendar.dv) t)), (0, .d (.l (K1 3) ((z.map Prod.fst).map ACalendar.dv) s))], []⟩) :
  kC T.env 0 fr H (.h (.loop [0, 1, 5] L223_0, k)) = brn (z.all fun p => ACalendar.beq p.1 p.2) (.h (k (.exit 0) [(14, .d (.b false)), (5, .d (I z.length)), (1, .d (.l (K1 3) ((z.map Prod.snd).map ACalendar.dv) t)), (0, .d (.l (K1 3) ((z.map Prod.fst).map ACalendar.dv) s))] [], r)) := by
 have hm := mxl
 rw [loop_rounds z (fun i _ => ⟨[(5, .d (I i)), (1, .d (.l (K1 3) ((z.map Prod.snd).map ACalendar.dv) t)), (0, .d (.l (K1 3) ((z.map Prod.fst).map ACalendar.dv) s))], []⟩) (fun _ _ => True) (fun i _ p c => if ACalendar.beq p.1 p.2 = true then c () else r) (fun _ => k (.exit 0) [(14, .d (.b false)), (5, .d (I z.length)), (1, .d (.l (K1 3) ((z.map Prod.snd).map ACalendar.dv) t)), (0, .d (.l (K1 3) ((z.map Prod.fst).map ACalendar.dv) s))] []) ?_ ?_ h0 trivial]
 ·rw [rounds_all (fun p => ACalendar.beq p.1 p.2) r]
  ·cases z.all fun p => ACalendar.beq p.1 p.2 <;> rfl
  ·exact fun _ _ _ _ => rfl
 ·intro B _ _ _
  simp [L223_0]
 ·intro B _ i _ hi _ c hc
  have h1 : (i : Int) < z.length := by omega
  have h3 := wr1 (i := i) (by omega)
  obtain ⟨o1, o2⟩ := ho z[i] (List.getElem_mem hi)
  have e0 := val300 T (hT 300 F300 rfl) z[i].1.Weekend.l z[i].2.Weekend.l z[i].1.Weekend.t z[i].2.Weekend.t (o1.2.1).1
  have e1 := val300 T (hT 300 F300 rfl) z[i].1.Holidays.l z[i].2.Holidays.l z[i].1.Holidays.t z[i].2.Holidays.t (o1.2.2).1
  simp [L223_0, h1, hi]
  repeat' (refine brn_split (fun h => ?_) (fun h => ?_) <;> (try simp at h) <;> (try simp [h, h1, hi, h3, e0, e1, ACalendar.beq, sbq]))
  all_goals first
   | exact hr _ _ (by simp [Fr.get]) (by simp [ghosts, gh])
   | exact hc () _ _ trivial (by simp [gc, Fr.keep, reach, frRefs, heapRefs, PV.refs, gcH, PV.ren, Obj.ren, Heap.obj, Fr.ren, gh])
   | (simp_all [ACalendar.beq, ibq, sbq, bbq]; first | exact hr _ _ (by simp [Fr.get]) (by simp [ghosts, gh]) | exact hc () _ _ trivial (by simp [gc, Fr.keep, reach, frRefs, heapRefs, PV.refs, PV.refsL, place, gcH, orefs, Obj.refs, PV.ren, PV.renL, Obj.ren, Heap.obj, Fr.ren, gh, List.idxOf?_cons]))
end Go.Sim
end
section
namespace Go.Sim
set_option maxRecDepth 10000
set_option maxHeartbeats 8000000
theorem lp302_0 (T : Tab) (hT : ∀ n F, tabC.get n = some F → T.F n = some F) (z : List (AFee × AFee)) (s t : Bool) (ho : ∀ p ∈ z, p.1.ok ∧ p.2.ok) (hn : z.length ≤ maxLen) {k : KC (PV × Bool)} {r : Option (PV × Bool)} {fr : Fr} {H : Heap} (hr : RetF 4 k r) (h0 : gc [0, 1, 5] 0 ⟨fr, H⟩ = ⟨[(5, .d (I 0)), (1, .d (.l (K1 10) ((z.map Prod.snd).map AFee.dv) t)), (0, .d (.l (K1 10) ((z.map Prod.fst).map AFee.dv) s))], []⟩) :
  kC T.env 0 fr H (.h (.loop [0, 1, 5] L302_0, k)) = brn (z.all fun p => AFee.beq p.1 p.2) (.h (k (.exit 0) [(14, .d (.b false)), (5, .d (I z.length)), (1, .d (.l (K1 10) ((z.map Prod.snd).map AFee.dv) t)), (0, .d (.l (K1 10) ((z.map Prod.fst).map AFee.dv) s))] [], r)) := by
 have hm := mxl
 rw [loop_rounds z (fun i _ => ⟨[(5, .d (I i)), (1, .d (.l (K1 10) ((z.map Prod.snd).map AFee.dv) t)), (0, .d (.l (K1 10) ((z.map Prod.fst).map AFee.dv) s))], []⟩) (fun _ _ => True) (fun i _ p c => if AFee.beq p.1 p.2 = true then c () else r) (fun _ => k (.exit 0) [(14, .d (.b false)), (5, .d (I z.length)), (1, .d (.l (K1 10) ((z.map Prod.snd).map AFee.dv) t)), (0, .d (.l (K1 10) ((z.map Prod.fst).map AFee.dv) s))] []) ?_ ?_ h0 trivial]
 ·rw [rounds_all (fun p => AFee.beq p.1 p.2) r]
  ·cases z.all fun p => AFee.beq p.1 p.2 <;> rfl
  ·exact fun _ _ _ _ => rfl
 ·intro B _ _ _
  simp [L302_0]
 ·intro B _ i _ hi _ c hc
  have h1 : (i : Int) < z.length := by omega
  have h3 := wr1 (i := i) (by omega)
  obtain ⟨o1, o2⟩ := ho z[i] (List.getElem_mem hi)
  have e0 := val303 T hT z[i].1.When z[i].2.When o1.2.2.1 o2.2.2.1
  have e1 := val303 T hT z[i].1.Amount z[i].2.Amount o1.2.2.2 o2.2.2.2
  simp [L302_0, h1, hi]
  repeat' (refine brn_split (fun h => ?_) (fun h => ?_) <;> (try simp at h) <;> (try simp [h, h1, hi, h3, e0, e1, AFee.beq, ibq, sbq]))
  all_goals first
   | exact hr _ _ (by simp [Fr.get]) (by simp [ghosts, gh])
   | exact hc () _ _ trivial (by simp [gc, Fr.keep, reach, frRefs, heapRefs, PV.refs, gcH, PV.ren, Obj.ren, Heap.obj, Fr.ren, gh])
   | (simp_all [AFee.beq, ibq, sbq, bbq]; first | exact hr _ _ (by simp [Fr.get]) (by simp [ghosts, gh]) | exact hc () _ _ trivial (by simp [gc, Fr.keep, reach, frRefs, heapRefs, PV.refs, PV.refsL, place, gcH, orefs, Obj.refs, PV.ren, PV.renL, Obj.ren, Heap.obj, Fr.ren, gh, List.idxOf?_cons]))
end Go.Sim
end
section
namespace Go.Sim
set_option maxRecDepth 10000
set_option maxHeartbeats 8000000
theorem val223 (T : Tab) (hT : ∀ n F, tabC.get n = some F → T.F n = some F) (x y : List ACalendar) (s t : Bool) (ox : ∀ p ∈ x, p.ok) (oy : ∀ p ∈ y, p.ok) (hn : x.length ≤ maxLen) : T.val 223 [.l (K1 3) (x.map ACalendar.dv) s, .l (K1 3) (y.map ACalendar.dv) t] = some (.d (.b (lsb ACalendar.beq x y)), false) := by
 rw [val_k T (hT 223 F223 rfl) rfl]
 by_cases hl : x.length = y.length
 ·obtain ⟨z, rfl, rfl⟩ := zip_of x y hl
  rw [lsb_zip]
  have hz : z.length ≤ maxLen := by simpa using hn
  have lp := fun k fr H => @lp223_0 T hT z s t (fun p hp => ⟨ox _ (List.mem_map_of_mem hp), oy _ (List.mem_map_of_mem hp)⟩) hz k (some (.d (.b false), false)) fr H
  simp [F223, Fr.ofArgs]
  rw [lp]
  ·refine brn_split (fun h => ?_) (fun h => ?_)
   ·simp [h]
   ·rw [h]
  ·simp [RetF_bl, RetF_sq, RetF_fin]
  ·simp [gc, Fr.keep, reach, frRefs, heapRefs, PV.refs, gcH, PV.ren, Obj.ren, Heap.obj, Fr.ren, gh]
 ·rw [lsb_len _ _ hl]
  have hl' : ((x.length : Int) == (y.length : Int)) = false := by simp; omega
  simp [F223, Fr.ofArgs, hl', bne]
theorem val302 (T : Tab) (hT : ∀ n F, tabC.get n = some F → T.F n = some F) (x y : List AFee) (s t : Bool) (ox : ∀ p ∈ x, p.ok) (oy : ∀ p ∈ y, p.ok) (hn : x.length ≤ maxLen) : T.val 302 [.l (K1 10) (x.map AFee.dv) s, .l (K1 10) (y.map AFee.dv) t] = some (.d (.b (lsb AFee.beq x y)), false) := by
 rw [val_k T (hT 302 F302 rfl) rfl]
 by_cases hl : x.length = y.length
 ·obtain ⟨z, rfl, rfl⟩ := zip_of x y hl
  rw [lsb_zip]
  have hz : z.length ≤ maxLen := by simpa using hn
  have lp := fun k fr H => @lp302_0 T hT z s t (fun p hp => ⟨ox _ (List.mem_map_of_mem hp), oy _ (List.mem_map_of_mem hp)⟩) hz k (some (.d (.b false), false)) fr H
  simp [F302, Fr.ofArgs]
  rw [lp]
  ·refine brn_split (fun h => ?_) (fun h => ?_)
   ·simp [h]
   ·rw [h]
  ·simp [RetF_bl, RetF_sq, RetF_fin]
  ·simp [gc, Fr.keep, reach, frRefs, heapRefs, PV.refs, gcH, PV.ren, Obj.ren, Heap.obj, Fr.ren, gh]
 ·rw [lsb_len _ _ hl]
  have hl' : ((x.length : Int) == (y.length : Int)) = false := by simp; omega
  simp [F302, Fr.ofArgs, hl', bne]
end Go.Sim
end
section
namespace Go.Sim
set_option maxRecDepth 10000
set_option maxHeartbeats 8000000
theorem val224 (T : Tab) (hT : ∀ n F, tabC.get n = some F → T.F n = some F) (x y : AProduct) (hx : x.ok) (hy : y.ok) : T.val 224 [x.dv, y.dv] = some (.d (.b (AProduct.beq x y)), false) := by
 rw [val_k T (hT 224 F224 rfl) rfl]
 have d0 := val301 T hT x.Credit y.Credit hx.2.2.2.2.2.2.2.1
 have d1 := val301 T hT x.Debit y.Debit hx.2.2.2.2.2.2.2.2.1
 have d2 := val302 T hT x.Fees.l y.Fees.l x.Fees.t y.Fees.t (fun p hp => (hx.2.2.2.2.2.2.2.2.2.1).2 p hp) (fun p hp => (hy.2.2.2.2.2.2.2.2.2.1).2 p hp) (hx.2.2.2.2.2.2.2.2.2.1).1
 by_cases hl0 : x.Rules.l.length = y.Rules.l.length
 rotate_left
 ·have hl0' : ((x.Rules.l.length : Int) == (y.Rules.l.length : Int)) = false := by simp; omega
  simp [F224, Fr.ofArgs]
  repeat' (refine brn_split (fun h => ?_) (fun h => ?_) <;> (try simp at h) <;> (try simp [h, d0, d1, d2, hl0', bne]))
  all_goals simp_all [AProduct.beq, ibq, sbq, lsb_len _ _ hl0]
 obtain ⟨z0, hx0, hy0⟩ := zip_of x.Rules.l y.Rules.l hl0
 have hn0 : z0.length ≤ maxLen := by have := (hx.2.2.2.2.2.2.2.2.2.2).1; rw [hx0] at this; simpa using this
 have lp0 := fun k fr H => @lp224_0 T hT x y z0 hx0 hy0 (fun p hp => ⟨(hx.2.2.2.2.2.2.2.2.2.2).2 p.1 (by rw [hx0]; exact List.mem_map_of_mem hp), (hy.2.2.2.2.2.2.2.2.2.2).2 p.2 (by rw [hy0]; exact List.mem_map_of_mem hp)⟩) hn0 k (some (.d (.b false), false)) fr H
 have hz0 : lsb ARule.beq x.Rules.l y.Rules.l = z0.all fun p => ARule.beq p.1 p.2 := by rw [hx0, hy0, lsb_zip]
 obtain ⟨q0, hq0⟩ : ∃ q, (z0.all fun p => ARule.beq p.1 p.2) = q := ⟨_, rfl⟩
 simp only [hq0] at lp0 hz0
 clear hq0
 simp [F224, Fr.ofArgs]
 repeat' first
  | (refine brn_split (fun h => ?_) (fun h => ?_) <;> (try simp at h) <;> (try simp [h, d0, d1, d2, hx0, hy0]))
  | refine (lp0 _ _ _ (by simp [RetF_bl, RetF_sq, RetF_fin]) (by simp [gc, Fr.keep, reach, frRefs, heapRefs, PV.refs, place, gcH, orefs, Obj.refs, PV.ren, Obj.ren, Heap.obj, Fr.ren, gh, List.idxOf?_cons])).trans ?_
 all_goals simp_all [AProduct.beq, ibq, sbq]
end Go.Sim
end
section
namespace Go.Sim
set_option maxRecDepth 10000
set_option maxHeartbeats 8000000
theorem val139 (T : Tab) (hT : ∀ n F, tabC.get n = some F → T.F n = some F) (x y : ABooks) (hx : x.ok) (hy : y.ok) : T.val 139 [x.dv, y.dv] = some (.d (.b (bqBk x y)), false) := by
 rw [val_k T (hT 139 F139 rfl) rfl]
 have d0 := val223 T hT x.Calendars.l y.Calendars.l x.Calendars.t y.Calendars.t (fun p hp => (hx.2.1).2 p hp) (fun p hp => (hy.2.1).2 p hp) (hx.2.1).1
 have e38 : eqA [1, 1, 1, 1, 1, 1, 1, 1, 1, 1, 1, 1, 1, 1] (.d x.Plan.dv) (.d y.Plan.dv) = some (APlan.beq x.Plan y.Plan) := by
  simp [eqA, eqL, eqK, APlan.dv, APlan.beq, ibq, Bool.and_assoc]
 by_cases hl0 : x.Currencies.l.length = y.Currencies.l.length
 rotate_left
 ·have hl0' : ((x.Currencies.l.length : Int) == (y.Currencies.l.length : Int)) = false := by simp; omega
  simp [F139, Fr.ofArgs, hl0', bne]
  repeat' (refine brn_split (fun h => ?_) (fun h => ?_) <;> (try simp at h) <;> (try simp [h, d0, e38, hl0, hl0', bne]))
  all_goals simp_all [bqBk, lsb_len _ _ hl0]
 by_cases hl1 : x.Chart.l.length = y.Chart.l.length
 rotate_left
 ·have hl1' : ((x.Chart.l.length : Int) == (y.Chart.l.length : Int)) = false := by simp; omega
  simp [F139, Fr.ofArgs, bne]
  repeat' (refine brn_split (fun h => ?_) (fun h => ?_) <;> (try simp at h) <;> (try simp [h, hl1', bne]))
  all_goals simp_all [bqBk, lsb_len _ _ hl1]
 by_cases hl2 : x.Products.l.length = y.Products.l.length
 rotate_left
 ·have hl2' : ((x.Products.l.length : Int) == (y.Products.l.length : Int)) = false := by simp; omega
  simp [F139, Fr.ofArgs, bne]
  repeat' (refine brn_split (fun h => ?_) (fun h => ?_) <;> (try simp at h) <;> (try simp [h, hl2', bne]))
  all_goals simp_all [bqBk, lsb_len _ _ hl2]
 obtain ⟨z0, hx0, hy0⟩ := zip_of x.Currencies.l y.Currencies.l hl0
 have hn0 : z0.length ≤ maxLen := by have := (hx.1).1; rw [hx0] at this; simpa using this
 have lp0 := fun k fr H => @lp139_0 T x y z0 hx0 hy0 hn0 k (some (.d (.b false), false)) fr H
 have hz0 : lsb ACurrency.beq x.Currencies.l y.Currencies.l = z0.all fun p => ACurrency.beq p.1 p.2 := by rw [hx0, hy0, lsb_zip]
 obtain ⟨q0, hq0⟩ : ∃ q, (z0.all fun p => ACurrency.beq p.1 p.2) = q := ⟨_, rfl⟩
 simp only [hq0] at lp0 hz0
 clear hq0
 obtain ⟨z1, hx1, hy1⟩ := zip_of x.Chart.l y.Chart.l hl1
 have hn1 : z1.length ≤ maxLen := by have := (hx.2.2.1).1; rw [hx1] at this; simpa using this
 have lp1 := fun k fr H => @lp139_1 T x y z1 hx1 hy1 hn1 k (some (.d (.b false), false)) fr H
 have hz1 : lsb AGl.beq x.Chart.l y.Chart.l = z1.all fun p => AGl.beq p.1 p.2 := by rw [hx1, hy1, lsb_zip]
 obtain ⟨q1, hq1⟩ : ∃ q, (z1.all fun p => AGl.beq p.1 p.2) = q := ⟨_, rfl⟩
 simp only [hq1] at lp1 hz1
 clear hq1
 obtain ⟨z2, hx2, hy2⟩ := zip_of x.Products.l y.Products.l hl2
 have hn2 : z2.length ≤ maxLen := by have := (hx.2.2.2.2.1).1; rw [hx2] at this; simpa using this
 have lp2 := fun k fr H => @lp139_2 T x y z2 hx2 hy2 (fun p hp => val224 T hT p.1 p.2 ((hx.2.2.2.2.1).2 p.1 (by rw [hx2]; exact List.mem_map_of_mem hp)) ((hy.2.2.2.2.1).2 p.2 (by rw [hy2]; exact List.mem_map_of_mem hp))) hn2 k (some (.d (.b false), false)) fr H
 have hz2 : lsb AProduct.beq x.Products.l y.Products.l = z2.all fun p => AProduct.beq p.1 p.2 := by rw [hx2, hy2, lsb_zip]
 obtain ⟨q2, hq2⟩ : ∃ q, (z2.all fun p => AProduct.beq p.1 p.2) = q := ⟨_, rfl⟩
 simp only [hq2] at lp2 hz2
 clear hq2
 simp [F139, Fr.ofArgs, e38, hx0, hy0, hx1, hy1, hx2, hy2]
 repeat' first
  | (refine brn_split (fun h => ?_) (fun h => ?_) <;> (try simp at h) <;> (try simp [h, d0, hx0, hy0, hx1, hy1, hx2, hy2]))
  | refine (lp0 _ _ _ (by simp [RetF_bl, RetF_sq, RetF_fin]) (by simp [gc, Fr.keep, reach, frRefs, heapRefs, PV.refs, place, gcH, orefs, Obj.refs, PV.ren, Obj.ren, Heap.obj, Fr.ren, gh, List.idxOf?_cons])).trans ?_
  | refine (lp1 _ _ _ (by simp [RetF_bl, RetF_sq, RetF_fin]) (by simp [gc, Fr.keep, reach, frRefs, heapRefs, PV.refs, place, gcH, orefs, Obj.refs, PV.ren, Obj.ren, Heap.obj, Fr.ren, gh, List.idxOf?_cons])).trans ?_
  | refine (lp2 _ _ _ (by simp [RetF_bl, RetF_sq, RetF_fin]) (by simp [gc, Fr.keep, reach, frRefs, heapRefs, PV.refs, place, gcH, orefs, Obj.refs, PV.ren, Obj.ren, Heap.obj, Fr.ren, gh, List.idxOf?_cons])).trans ?_
 all_goals simp_all [bqBk]
end Go.Sim
end
section
namespace Go.Sim
set_option maxRecDepth 10000
set_option maxHeartbeats 8000000
theorem val9 (T : Tab) (hT : ∀ n F, tabC.get n = some F → T.F n = some F) (x y : AEntry) (hx : x.ok) : T.val 9 [x.dv, y.dv] = some (.d (.b (AEntry.beq x y)), false) := by
 rw [val_k T (hT 9 F9 rfl) rfl]
 have d0 := val14 T (hT 14 F14 rfl) x.Legs.l y.Legs.l x.Legs.t y.Legs.t (hx.2.2.2.2.2.2.2.2.1).1
 simp [F9, Fr.ofArgs]
 repeat' (refine brn_split (fun h => ?_) (fun h => ?_) <;> (try simp at h) <;> (try simp [h, d0]))
 all_goals simp_all [AEntry.beq, ibq, sbq]
end Go.Sim
end
section
namespace Go.Sim
set_option maxRecDepth 10000
set_option maxHeartbeats 8000000
theorem val97 (T : Tab) (hT : ∀ n F, tabC.get n = some F → T.F n = some F) (x y : ABooks) (hx : x.ok) (hy : y.ok) : T.val 97 [x.dv, y.dv] = some (.d (.b (ABooks.beq x y)), false) := by
 rw [val_k T (hT 97 F97 rfl) rfl]
 have d0 := val139 T hT x y hx hy
 have d1 := val140 T (hT 140 F140 rfl) x.Accounts.l y.Accounts.l x.Accounts.t y.Accounts.t (hx.2.2.2.2.2.1).1
 by_cases hl0 : x.Journal.l.length = y.Journal.l.length
 rotate_left
 ·have hl0' : ((x.Journal.l.length : Int) == (y.Journal.l.length : Int)) = false := by simp; omega
  simp [F97, Fr.ofArgs, d0]
  repeat' (refine brn_split (fun h => ?_) (fun h => ?_) <;> (try simp at h) <;> (try simp [h, d1, hl0', bne]))
  all_goals simp_all [ABooks.beq, bqBk, lsb_len _ _ hl0]
 by_cases hl1 : x.Holds.l.length = y.Holds.l.length
 rotate_left
 ·have hl1' : ((x.Holds.l.length : Int) == (y.Holds.l.length : Int)) = false := by simp; omega
  simp [F97, Fr.ofArgs, d0]
  repeat' (refine brn_split (fun h => ?_) (fun h => ?_) <;> (try simp at h) <;> (try simp [h, d1, hl1', bne]))
  all_goals simp_all [ABooks.beq, bqBk, lsb_len _ _ hl1]
 by_cases hl2 : x.Blocks.l.length = y.Blocks.l.length
 rotate_left
 ·have hl2' : ((x.Blocks.l.length : Int) == (y.Blocks.l.length : Int)) = false := by simp; omega
  simp [F97, Fr.ofArgs, d0]
  repeat' (refine brn_split (fun h => ?_) (fun h => ?_) <;> (try simp at h) <;> (try simp [h, d1, hl2', bne]))
  all_goals simp_all [ABooks.beq, bqBk, lsb_len _ _ hl2]
 obtain ⟨z0, hx0, hy0⟩ := zip_of x.Journal.l y.Journal.l hl0
 have hn0 : z0.length ≤ maxLen := by have := (hx.2.2.2.2.2.2.1).1; rw [hx0] at this; simpa using this
 have lp0 := fun k fr H => @lp97_0 T x y z0 hx0 hy0 (fun p hp => val9 T hT p.1 p.2 ((hx.2.2.2.2.2.2.1).2 p.1 (by rw [hx0]; exact List.mem_map_of_mem hp))) hn0 k (some (.d (.b false), false)) fr H
 have hz0 : lsb AEntry.beq x.Journal.l y.Journal.l = z0.all fun p => AEntry.beq p.1 p.2 := by rw [hx0, hy0, lsb_zip]
 obtain ⟨q0, hq0⟩ : ∃ q, (z0.all fun p => AEntry.beq p.1 p.2) = q := ⟨_, rfl⟩
 simp only [hq0] at lp0 hz0
 clear hq0
 obtain ⟨z1, hx1, hy1⟩ := zip_of x.Holds.l y.Holds.l hl1
 have hn1 : z1.length ≤ maxLen := by have := (hx.2.2.2.2.2.2.2.1).1; rw [hx1] at this; simpa using this
 have lp1 := fun k fr H => @lp97_1 T x y z1 hx1 hy1 hn1 k (some (.d (.b false), false)) fr H
 have hz1 : lsb AHold.beq x.Holds.l y.Holds.l = z1.all fun p => AHold.beq p.1 p.2 := by rw [hx1, hy1, lsb_zip]
 obtain ⟨q1, hq1⟩ : ∃ q, (z1.all fun p => AHold.beq p.1 p.2) = q := ⟨_, rfl⟩
 simp only [hq1] at lp1 hz1
 clear hq1
 obtain ⟨z2, hx2, hy2⟩ := zip_of x.Blocks.l y.Blocks.l hl2
 have hn2 : z2.length ≤ maxLen := by have := (hx.2.2.2.2.2.2.2.2).1; rw [hx2] at this; simpa using this
 have lp2 := fun k fr H => @lp97_2 T x y z2 hx2 hy2 hn2 k (some (.d (.b false), false)) fr H
 have hz2 : lsb ABlock.beq x.Blocks.l y.Blocks.l = z2.all fun p => ABlock.beq p.1 p.2 := by rw [hx2, hy2, lsb_zip]
 obtain ⟨q2, hq2⟩ : ∃ q, (z2.all fun p => ABlock.beq p.1 p.2) = q := ⟨_, rfl⟩
 simp only [hq2] at lp2 hz2
 clear hq2
 simp [F97, Fr.ofArgs, d0]
 repeat' first
  | (refine brn_split (fun h => ?_) (fun h => ?_) <;> (try simp at h) <;> (try simp [h, d1, hx0, hy0, hx1, hy1, hx2, hy2]))
  | refine (lp0 _ _ _ (by simp [RetF_bl, RetF_sq, RetF_fin]) (by simp [gc, Fr.keep, reach, frRefs, heapRefs, PV.refs, place, gcH, orefs, Obj.refs, PV.ren, Obj.ren, Heap.obj, Fr.ren, gh, List.idxOf?_cons])).trans ?_
  | refine (lp1 _ _ _ (by simp [RetF_bl, RetF_sq, RetF_fin]) (by simp [gc, Fr.keep, reach, frRefs, heapRefs, PV.refs, place, gcH, orefs, Obj.refs, PV.ren, Obj.ren, Heap.obj, Fr.ren, gh, List.idxOf?_cons])).trans ?_
  | refine (lp2 _ _ _ (by simp [RetF_bl, RetF_sq, RetF_fin]) (by simp [gc, Fr.keep, reach, frRefs, heapRefs, PV.refs, place, gcH, orefs, Obj.refs, PV.ren, Obj.ren, Heap.obj, Fr.ren, gh, List.idxOf?_cons])).trans ?_
 all_goals simp_all [ABooks.beq, bqBk]
end Go.Sim
end
section
namespace Go.Sim
set_option maxRecDepth 10000
set_option maxHeartbeats 8000000
theorem ABank_split (x y : ABank) : ABank.beq x y = (ibq x.Day y.Day && (ibq x.NextId y.NextId && (sbq x.Home y.Home && (ARun.beq x.Run y.Run && (ABooks.beq x.Books y.Books && (bqPe x y && bqUs x y)))))) := by
 simp only [ABank.beq, bqPe, bqUs, bqOr]
 ac_rfl
theorem val82 (T : Tab) (hT : ∀ n F, tabC.get n = some F → T.F n = some F) (x y : ABank) (hx : x.ok) (hy : y.ok) : T.val 82 [x.dv, y.dv] = some (.d (.b (ABank.beq x y)), false) := by
 rw [val_k T (hT 82 F82 rfl) rfl]
 have d0 := val97 T hT x.Books y.Books hx.2.2.2.1 hy.2.2.2.1
 have d1 := val98 T hT x y hx
 have d2 := val99 T hT x y hx
 have e29 : eqA [2, 1, 1, 1] (.d x.Run.dv) (.d y.Run.dv) = some (ARun.beq x.Run y.Run) := by
  simp [eqA, eqL, eqK, ARun.dv, ARun.beq, ibq, bbq, Bool.and_assoc]
 simp [F82, Fr.ofArgs]
 repeat' (refine brn_split (fun h => ?_) (fun h => ?_) <;> (try simp at h) <;> (try simp [h, d0, d1, d2, e29]))
 all_goals simp_all [ABank_split, ibq, sbq]
end Go.Sim
end
end
section
open Go.Sim
attribute [local simp ↓] kC_skip kC_ret kC_exit kC_seq kC_block kC_reg kC_cond kC_condc sqK blK lpK kO_nil kO_O kO_E kO_OG kO_EG grd_b grd_t tst_b brn_true brn_false brn_not chk_T b_mov b_pick b_alloc b_box b_load b_store b_bin b_un b_eqv b_faddr b_field b_iaddr b_sl b_len b_app b_call b_call1 b_callR b_ext bo_some bo_none bo2_some bo2_none bo_iaddr bo_addS bo_quo bo_rem bo_bnd bo_bnd0 ld_q0 ld_qw ld_p subP0 subPw bo_moveP bo_moveQ bo_lenl bo_lens bo_lenr bo_add bo_sub bo_mul bo_eql bo_neq bo_lss bo_leq bo_gtr bo_geq bo_neg bo_not bo_eqS bo_neS grd_nb b_slS slSK_s extK_t ownL_l fin_ret fin_norm bo_res0 bo_rest bo_resc st_p stK_box b_callv callvK_f0 callvK_f1 mkf_b subPs ld_qs kC_regS0 kC_regS1 kC_regS2 kC_regS3 kC_regS4 kC_regS5 b_eqb eqbK_b b_agg0 b_bsl0 b_bsl1 app_l app_r appE_n appE_r bo_lenR b_mkif mkifK_d b_tas tasK_i b_mm2 bo_mm2
attribute [local simp] K_refl obj_0 obj_s get_c get_n drop_c drop_n set_c set_n fix_c fix_n rd IOp.adds nadds gh nid rgK rdS ghosts_c ghosts_n packed1 packed2 purT_b purT_i purT_s purT_a purT_lt purT_lf K_ss K_ns K_sn plains_n plains_c env_val env_ref purs_n purs_d put_0 put_s fits_i fits_b fits_s fits_l lt0_nat fits_a purT_t pur_dv frz_n purT_r purT_f
section
namespace Go.Sim
set_option maxRecDepth 10000
set_option maxHeartbeats 4000000
theorem small_loans {x : ABank} (h : bSmall x = true) : x.Loans.l.length ≤ 8 := by
 unfold bSmall smHead at h
 simp at h
 omega
theorem findL_ok {b : ABank} {id : Int} (hb : b.ok) : ((findL b id).getD .zero).ok := by
 cases h : findL b id with
 | none =>
  have h0 : inK .i64 0 := by unfold inK; decide
  simp [ALoan.zero, ALoan.ok, ATerms.ok, ATerms.zero, h0]
 | some a => exact hb.2.2.2.2.2.1.2 a (List.mem_of_find?_eq_some h)
theorem putL_mem {l : ALoan} {ls : List ALoan} : ∀ a ∈ putL l ls, a ∈ ls ∨ a = l := by
 intro a ha
 unfold putL at ha
 split at ha
 ·exact (List.mem_or_eq_of_mem_set ha)
 ·exact .inl ha
theorem putL_len (l : ALoan) (ls : List ALoan) : (putL l ls).length = ls.length := by
 unfold putL; split <;> simp
theorem with_ok {b : ABank} {l : ALoan} (hb : b.ok) (hl : l.ok) (t : Bool) : (b.withLoans (putL l b.Loans.l) t).ok := by
 obtain ⟨h1, h2, h3, h4, h5, h6, h7⟩ := hb
 refine ⟨h1, h2, h3, h4, h5, ⟨?_, fun a ha => ?_⟩, h7⟩
 ·show (putL l b.Loans.l).length ≤ maxLen
  rw [putL_len]; exact h6.1
 ·rcases putL_mem a ha with h | h
  ·exact h6.2 a h
  ·rw [h]; exact hl
theorem with_eq (b : ABank) (ls : List ALoan) (s t : Bool) : ABank.beq (b.withLoans ls s) (b.withLoans ls t) = true := ABank.beq_refl (b.withLoans ls s)
theorem law76 (T : Tab) (hT : ∀ n F, tabC.get n = some F → T.F n = some F) (hL : HL T) (hX : HXB T) (h1 : T.F 77 = some F77) (h2 : T.F 85 = some F85) (h3 : T.val 78 [] = some (.d (.b true), false)) (b : ABank) (id : Int) (l : ALoan) (hb : b.ok) (hf : b.fit) (hl : l.ok) (hlf : l.fit) : T.val 76 [b.dv, I id, l.dv] = some (.d (.b true), false) := by
 rw [val_k T (hL 76 F76 rfl) rfl]
 have d0 := val77 T h1 h2 b hb
 have e79 := val79 T hL hX b id hb hf
 have e80 := val80 T hL b id hb
 have e81 := val81 T hT ((findL b id).getD .zero) ((findL b id).getD .zero) (findL_ok hb)
 rw [ALoan.beq_refl] at e81
 have e83 := val83 T hL hX b l hb hf hlf
 have e82 := val82 T hT (b.withLoans (putL l b.Loans.l) false) (b.withLoans (putL l b.Loans.l) (putL l b.Loans.l).isEmpty) (with_ok hb hl _) (with_ok hb hl _)
 rw [with_eq] at e82
 cases hs : bSmall b with
 | false =>
  rw [hs] at d0
  simp [F76, Fr.ofArgs, d0, h3]
 | true =>
  have e84 := val84 T hL b l (by have := small_loans hs; omega)
  rw [hs] at d0
  have g : ((findL b id).isSome == (findL b id).isSome) = true := by simp
  simp [F76, Fr.ofArgs, d0]
  repeat' (refine brn_split (fun h => ?_) (fun h => ?_) <;> (try simp at h) <;> (try simp [h, h3, e79, e80, e81, e82, e83, e84]))
end Go.Sim
end
end
section
namespace Go.Sim
noncomputable section
def kget (fr : Fr) (t : Nat) : PV := @List.rec (Nat × PV) (fun _ => PV) .u (fun p _ ih => @Prod.rec Nat PV (fun _ => PV) (fun j v => @Bool.rec (fun _ => PV) ih v (Nat.beq j t)) p) fr
theorem beq_ne {j t : Nat} (h : ¬ j = t) : Nat.beq j t = false := by
 cases e : Nat.beq j t with
 | false => rfl
 | true => exact absurd (Nat.eq_of_beq_eq_true e) h
theorem kget_eq : ∀ fr t, kget fr t = Fr.get fr t
 | [], t => rfl
 | (j, v) :: r, t => by
  have ih := kget_eq r t
  show @Bool.rec (fun _ => PV) (kget r t) v (Nat.beq j t) = _
  rw [ih, Fr.get]
  by_cases h : j = t
  ·subst h; rw [if_pos rfl, Nat.beq_refl]
  ·rw [if_neg h, beq_ne h]
def kset (fr : Fr) (t : Nat) (v : PV) : Fr := @List.rec (Nat × PV) (fun _ => Fr) [(t, v)] (fun p r ih => @Prod.rec Nat PV (fun _ => Fr) (fun j x => @Bool.rec (fun _ => Fr) (@Bool.rec (fun _ => Fr) ((j, x) :: ih) ((t, v) :: (j, x) :: r) (Nat.ble (Nat.succ j) t)) ((t, v) :: r) (Nat.beq j t)) p) fr
theorem kset_eq : ∀ fr t v, kset fr t v = Fr.set fr t v
 | [], t, v => rfl
 | (j, x) :: r, t, v => by
  have ih := kset_eq r t v
  show @Bool.rec (fun _ => Fr) (@Bool.rec (fun _ => Fr) ((j, x) :: kset r t v) ((t, v) :: (j, x) :: r) (Nat.ble (Nat.succ j) t)) ((t, v) :: r) (Nat.beq j t) = _
  rw [ih, Fr.set]
  by_cases h : j = t
  ·subst h; rw [if_pos rfl, Nat.beq_refl]
  ·rw [if_neg h, beq_ne h]
   show @Bool.rec (fun _ => Fr) _ _ (Nat.ble (Nat.succ j) t) = _
   by_cases h2 : j < t
   ·rw [if_pos h2, Nat.ble_eq_true_of_le h2]
   ·rw [if_neg h2, Bool.eq_false_iff.2 (fun e => h2 (Nat.le_of_ble_eq_true e))]
def kmem (l : List Nat) (j : Nat) : Bool := @List.rec Nat (fun _ => Bool) false (fun x _ ih => @Bool.rec (fun _ => Bool) ih true (Nat.beq x j)) l
theorem kmem_eq : ∀ l j, kmem l j = l.contains j
 | [], j => rfl
 | x :: r, j => by
  have ih := kmem_eq r j
  show @Bool.rec (fun _ => Bool) (kmem r j) true (Nat.beq x j) = _
  rw [ih, List.contains_cons]
  by_cases h : x = j
  ·subst h; rw [Nat.beq_refl]; simp
  ·rw [beq_ne h]; have : (j == x) = false := by simpa using fun e => h e.symm
   rw [this]; rfl
def kdrop (l : List Nat) (fr : Fr) : Fr := @List.rec (Nat × PV) (fun _ => Fr) [] (fun p _ ih => @Prod.rec Nat PV (fun _ => Fr) (fun j v => @Bool.rec (fun _ => Fr) ((j, v) :: ih) (@Bool.rec (fun _ => Fr) ((j, v) :: ih) ih (Nat.ble (Nat.succ j) 100000)) (kmem l j)) p) fr
theorem kdrop_eq (l : List Nat) : ∀ fr, kdrop l fr = Fr.drop l fr
 | [] => rfl
 | (j, v) :: r => by
  have ih := kdrop_eq l r
  show @Bool.rec (fun _ => Fr) ((j, v) :: kdrop l r) (@Bool.rec (fun _ => Fr) ((j, v) :: kdrop l r) (kdrop l r) (Nat.blt j gh)) (kmem l j) = _
  rw [ih, Fr.drop, kmem_eq]
  cases l.contains j <;> cases Nat.blt j gh <;> rfl
def kmap {α β : Type} (f : α → β) (l : List α) : List β := @List.rec α (fun _ => List β) [] (fun x _ ih => f x :: ih) l
theorem kmap_eq {α β : Type} (f : α → β) : ∀ l, kmap f l = l.map f
 | [] => rfl
 | x :: r => by show f x :: kmap f r = _; rw [kmap_eq f r]; rfl
def kapp {α : Type} (l m : List α) : List α := @List.rec α (fun _ => List α) m (fun x _ ih => x :: ih) l
theorem kapp_eq {α : Type} : ∀ (l m : List α), kapp l m = l ++ m
 | [], m => rfl
 | x :: r, m => by show x :: kapp r m = _; rw [kapp_eq r m]; rfl
def klen {α : Type} (l : List α) : Nat := @List.rec α (fun _ => Nat) 0 (fun _ _ ih => Nat.succ ih) l
theorem klen_eq {α : Type} : ∀ (l : List α), klen l = l.length
 | [] => rfl
 | x :: r => by show Nat.succ (klen r) = _; rw [klen_eq r]; rfl
def knth {α : Type} (l : List α) : Nat → Option α := @List.rec α (fun _ => Nat → Option α) (fun _ => none) (fun x _ ih n => @Nat.rec (fun _ => Option α) (some x) (fun m _ => ih m) n) l
theorem knth_eq {α : Type} : ∀ (l : List α) (n : Nat), knth l n = l[n]?
 | [], n => rfl
 | x :: r, 0 => rfl
 | x :: r, n + 1 => by show knth r n = _; rw [knth_eq r n]; rfl
def krep {α : Type} (x : α) (n : Nat) (l : List α) : List α := @Nat.rec (fun _ => List α) l (fun _ ih => x :: ih) n
theorem krep_eq {α : Type} (x : α) (l : List α) : ∀ n, krep x n l = List.replicate n x ++ l
 | 0 => rfl
 | n + 1 => by show x :: krep x n l = _; rw [krep_eq x l n]; rfl
def kobj (H : Heap) (o : Nat) : Option Obj := @Option.rec (Option Obj) (fun _ => Option Obj) none (fun x => x) (knth H o)
theorem kobj_eq (H : Heap) (o : Nat) : kobj H o = Heap.obj H o := by
 unfold kobj Heap.obj; rw [knth_eq]; cases H[o]? <;> rfl
def krd (E : Env) (fr : Fr) (x : Rand) : PV := @Rand.rec (fun _ => PV) (fun t => kget fr t) (fun v => .d v) (fun n => match E.G n with | some (v, k) => .q v k 0 | none => .u) (fun n => .f n []) x
theorem krd_eq (E : Env) (fr : Fr) : krd E fr = rd E fr := by
 funext x
 cases x with
 | t n => exact kget_eq fr n
 | c v => rfl
 | f n => rfl
 | g n => simp only [krd, rd]; cases E.G n <;> rfl
def kloadA : Heap → K → PV → Option PV := loadA
def kstoreA : Heap → K → PV → PV → Option Heap := storeA
def kiaddr : Heap → K → PV → PV → Option PV := iaddr
def kbinA : BinOp → PV → PV → Option DV := binA
def kmoveA : Nat → PV → Option PV := moveA
def klenA : Heap → Bool → PV → Option Nat := lenA
def k_mov (x : Rand) (E : Env) (fr : Fr) (H : Heap) (_id : Nat) : Option (PV × Heap) := some (krd E fr x, H)
def k_pick (c : Rand) (a : Rand) (b : Rand) (E : Env) (fr : Fr) (H : Heap) (_id : Nat) : Option (PV × Heap) := match krd E fr c with
  | .d (.b true) => some (krd E fr a, H)
  | .d (.b false) => some (krd E fr b, H)
  | _ => none
def k_alloc (k : K) (z : DV) (_E : Env) (_fr : Fr) (H : Heap) (id : Nat) : Option (PV × Heap) := some (.p id 0 0, H.put id (some (.box k (.d z))))
def k_box (k : K) (x : Rand) (E : Env) (fr : Fr) (H : Heap) (id : Nat) : Option (PV × Heap) := if fits k (krd E fr x) then some (.p id 0 0, H.put id (some (.box k (krd E fr x)))) else none
def k_agg (z : List DV) (parts : List (Nat × K × Rand)) (E : Env) (fr : Fr) (H : Heap) (_id : Nat) : Option (PV × Heap) := match aggA (z.map .d) (parts.map fun x => (x.1, x.2.1, krd E fr x.2.2)) with
  | some cs => some (mkA cs, H)
  | none => none
def k_bsl (k : K) (z : DV) (len : Nat) (parts : List (Nat × Rand)) (E : Env) (fr : Fr) (H : Heap) (id : Nat) : Option (PV × Heap) := match bslA H k (List.replicate len z) (parts.map fun x => (x.1, krd E fr x.2)) with
  | some (es, os) => some (.r id k 0 len true, (frz H os).put id (some (.sl k 0 es)))
  | none => none
def k_load (k : K) (x : Rand) (E : Env) (fr : Fr) (H : Heap) (_id : Nat) : Option (PV × Heap) := opt (kloadA H k (krd E fr x)) H
def k_store (k : K) (x : Rand) (y : Rand) (E : Env) (fr : Fr) (H : Heap) (_id : Nat) : Option (PV × Heap) := match kstoreA H k (krd E fr x) (krd E fr y) with | some H' => some (.u, H') | none => none
def k_bin (op : BinOp) (x : Rand) (y : Rand) (E : Env) (fr : Fr) (H : Heap) (_id : Nat) : Option (PV × Heap) := optD (kbinA op (krd E fr x) (krd E fr y)) H
def k_eqv (neg : Bool) (n : List Nat) (x : Rand) (y : Rand) (E : Env) (fr : Fr) (H : Heap) (_id : Nat) : Option (PV × Heap) := match eqA n (krd E fr x) (krd E fr y) with
  | some e => some (.d (.b (if neg then !e else e)), H)
  | none => none
def k_eqb (neg : Bool) (x : Rand) (y : Rand) (E : Env) (fr : Fr) (H : Heap) (_id : Nat) : Option (PV × Heap) := match krd E fr x, krd E fr y with
  | .d (.b a), .d (.b b) => some (.d (.b (if neg then !(a == b) else a == b)), H)
  | _, _ => none
def k_isnil (neg : Bool) (kd : Nat) (x : Rand) (E : Env) (fr : Fr) (H : Heap) (_id : Nat) : Option (PV × Heap) := match nilA kd (krd E fr x) with | some b => some (.d (.b (if neg then !b else b)), H) | none => none
def k_un (op : UnOp) (x : Rand) (E : Env) (fr : Fr) (H : Heap) (_id : Nat) : Option (PV × Heap) := optD (unA op (krd E fr x)) H
def k_conv (k : IntKind) (x : Rand) (E : Env) (fr : Fr) (H : Heap) (_id : Nat) : Option (PV × Heap) := match krd E fr x with | .d (.i _ n) => some (.d (.i k (k.wrap n)), H) | _ => none
def k_slS (x : Rand) (lo : Option Rand) (hi : Option Rand) (E : Env) (fr : Fr) (H : Heap) (_id : Nat) : Option (PV × Heap) := match krd E fr x with
  | .d (.s s) => match bnd s.length s.length (hi.map (krd E fr)) with
   | some h => match bnd 0 h (lo.map (krd E fr)) with
    | some l => some (.d (.s ((s.take h).drop l)), H)
    | none => none
   | none => none
  | _ => none
def k_sl (k : K) (x : Rand) (lo : Option Rand) (hi : Option Rand) (mx : Option Rand) (E : Env) (fr : Fr) (H : Heap) (_id : Nat) : Option (PV × Heap) := opt (slA H k (krd E fr x) (lo.map (krd E fr)) (hi.map (krd E fr)) (mx.map (krd E fr))) H
def k_faddr (off : Nat) (x : Rand) (E : Env) (fr : Fr) (H : Heap) (_id : Nat) : Option (PV × Heap) := opt (kmoveA off (krd E fr x)) H
def k_field (off : Nat) (k : K) (x : Rand) (E : Env) (fr : Fr) (H : Heap) (_id : Nat) : Option (PV × Heap) := opt (fieldA off k (krd E fr x)) H
def k_iaddr (k : K) (x : Rand) (i : Rand) (E : Env) (fr : Fr) (H : Heap) (_id : Nat) : Option (PV × Heap) := opt (kiaddr H k (krd E fr x) (krd E fr i)) H
def k_iaddrA (len : Nat) (k : K) (x : Rand) (i : Rand) (E : Env) (fr : Fr) (H : Heap) (_id : Nat) : Option (PV × Heap) := match asI (krd E fr i) with
  | some n => match inR n len with | some j => opt (kmoveA (j * k.size) (krd E fr x)) H | none => none
  | none => none
def k_idxS (x : Rand) (i : Rand) (E : Env) (fr : Fr) (H : Heap) (_id : Nat) : Option (PV × Heap) := match krd E fr x, asI (krd E fr i) with
  | .d (.s s), some n => if 0 ≤ n then match s[n.toNat]? with
   | some b => some (.d (.i .u8 b.toNat), H)
   | none => none
   else none
  | _, _ => none
def k_idxA (len : Nat) (k : K) (x : Rand) (i : Rand) (E : Env) (fr : Fr) (H : Heap) (_id : Nat) : Option (PV × Heap) := match asI (krd E fr i) with
  | some n => match inR n len with
   | some j => opt (fieldA (j * k.size) k (krd E fr x)) H
   | none => none
  | none => none
def k_len (str : Bool) (x : Rand) (E : Env) (fr : Fr) (H : Heap) (_id : Nat) : Option (PV × Heap) := match klenA H str (krd E fr x) with | some n => some (.d (.i .i64 n), H) | none => none
def k_app (k : K) (bytes : Nat) (x : Rand) (y : Rand) (E : Env) (fr : Fr) (H : Heap) (id : Nat) : Option (PV × Heap) := appA H id k bytes (krd E fr x) (krd E fr y)
def k_call0 (f : Nat) (args : List Rand) (E : Env) (fr : Fr) (H : Heap) (_id : Nat) : Option (PV × Heap) := match purs H (kmap (krd E fr) args) with
  | some (ds, os) => match E.val f ds with
   | some (r, _) => some (r, if os.isEmpty || r.scal then H else frz H os)
   | none => none
  | none => none
def k_call1 (f : Nat) (args : List Rand) (E : Env) (fr : Fr) (H : Heap) (id : Nat) : Option (PV × Heap) := match purs H (kmap (krd E fr) args) with
  | some (ds, os) => match E.val f ds with
   | some (.d (.l k es _), true) => some (.r id k 0 es.length false, (if os.isEmpty then H else frz H os).put id (some (.sl k 0 es)))
   | _ => none
  | none => none
def k_call2 (f : Nat) (args : List Rand) (E : Env) (fr : Fr) (H : Heap) (_id : Nat) : Option (PV × Heap) := E.ref f (kmap (krd E fr) args) H
def k_call (mode f : Nat) (args : List Rand) : Env → Fr → Heap → Nat → Option (PV × Heap) := @Nat.rec (fun _ => Env → Fr → Heap → Nat → Option (PV × Heap)) (k_call0 f args) (fun m _ => @Nat.rec (fun _ => Env → Fr → Heap → Nat → Option (PV × Heap)) (k_call1 f args) (fun _ _ => k_call2 f args) m) mode
def k_callv (x : Rand) (args : List Rand) (E : Env) (fr : Fr) (H : Heap) (_id : Nat) : Option (PV × Heap) := match krd E fr x with
  | .f n caps => match (if caps.isEmpty then plains (kmap (krd E fr) args) else none) with
   | some ds => match E.val n ds with
    | some (r, _) => some (r, H)
    | none => none
   | none => E.ref n (kmap (krd E fr) args ++ caps) H
  | .m n firsts => match plains (firsts ++ kmap (krd E fr) args) with
   | some ds => match E.val n ds with
    | some (r, _) => some (r, H)
    | none => none
   | none => E.ref n (firsts ++ kmap (krd E fr) args) H
  | .h o => E.yld o (kmap (krd E fr) args) H
  | _ => none
def k_ext (x : Rand) (i : Nat) (E : Env) (fr : Fr) (H : Heap) (_id : Nat) : Option (PV × Heap) := match krd E fr x with
  | .t vs => opt vs[i]? H
  | _ => none
def k_mkf (f : Nat) (caps : List Rand) (E : Env) (fr : Fr) (H : Heap) (_id : Nat) : Option (PV × Heap) := some (.f f (kmap (krd E fr) caps), H)
def k_mkm (f : Nat) (caps : List Rand) (E : Env) (fr : Fr) (H : Heap) (_id : Nat) : Option (PV × Heap) := some (.m f (kmap (krd E fr) caps), H)
def k_prim (p : Nat) (args : List Rand) (E : Env) (fr : Fr) (H : Heap) (_id : Nat) : Option (PV × Heap) := opt (primA p (kmap (krd E fr) args)) H
def k_nilck (x : Rand) (E : Env) (fr : Fr) (H : Heap) (_id : Nat) : Option (PV × Heap) := match krd E fr x with
  | .p o i c => some (.p o i c, H)
  | .q v k c => some (.q v k c, H)
  | .f n cs => some (.f n cs, H)
  | _ => none
def k_mksl (k : K) (bytes : Nat) (z : DV) (len : Rand) (cap : Rand) (E : Env) (fr : Fr) (H : Heap) (id : Nat) : Option (PV × Heap) := match asI (krd E fr len), asI (krd E fr cap) with
  | some n, some c => if 0 ≤ n ∧ n ≤ c ∧ c * bytes ≤ 2 ^ 47 then some (.r id k 0 n.toNat false, H.put id (some (.sl k 0 (List.replicate n.toNat z)))) else none
  | _, _ => none
def k_minmax (mx : Bool) (args : List Rand) (E : Env) (fr : Fr) (H : Heap) (_id : Nat) : Option (PV × Heap) := match kmap (krd E fr) args with
  | v :: r => opt (mmA mx v r) H
  | [] => none
def k_copy (k : K) (x : Rand) (y : Rand) (E : Env) (fr : Fr) (H : Heap) (_id : Nat) : Option (PV × Heap) := match krd E fr x with
  | .r o k' off len _ => match kobj H o, elemsA H k (krd E fr y) with
   | some (.sl k'' ro es), some ys =>
    if K.eq k k' && K.eq k k'' && decide (off + len ≤ es.length) && decide (ro ≤ off) then
     let n := min ys.length len
     some (.d (.i .i64 n), H.put o (some (.sl k ro (putAt es off (ys.take n)))))
    else none
   | _, _ => none
  | _ => none
def k_clr (k : K) (z : DV) (x : Rand) (E : Env) (fr : Fr) (H : Heap) (_id : Nat) : Option (PV × Heap) := match krd E fr x with
  | .r o k' off len _ => match kobj H o with
   | some (.sl k'' ro es) =>
    if K.eq k k' && K.eq k k'' && decide (off + len ≤ es.length) && decide (ro ≤ off) then some (.t [], H.put o (some (.sl k ro (putAt es off (List.replicate len z))))) else none
   | _ => none
  | .d (.l _ [] _) => some (.t [], H)
  | _ => none
def k_mkif (t : Nat) (x : Rand) (E : Env) (fr : Fr) (H : Heap) (_id : Nat) : Option (PV × Heap) := match pur H (krd E fr x) with
  | some (v, os) => some (.d (.ifc t v), frz H os)
  | none => some (.w t (krd E fr x), H)
def k_tas (t : Nat) (z : DV) (ok : Bool) (x : Rand) (E : Env) (fr : Fr) (H : Heap) (_id : Nat) : Option (PV × Heap) := match krd E fr x with
  | .d (.ifc u v) => if u = t then some (if ok then .t [.d v, .d (.b true)] else .d v, H) else if ok then some (.t [.d z, .d (.b false)], H) else none
  | .w u v => if u = t then some (if ok then .t [v, .d (.b true)] else v, H) else if ok then some (.t [.d z, .d (.b false)], H) else none
  | .d .ni => if ok then some (.t [.d z, .d (.b false)], H) else none
  | _ => none
def k_invk (tab : List (Nat × Nat × Nat)) (x : Rand) (args : List Rand) (E : Env) (fr : Fr) (H : Heap) (_id : Nat) : Option (PV × Heap) := match krd E fr x with
  | .d (.ifc u v) => match lookT u tab with
   | some (0, f) => match purs H (kmap (krd E fr) args) with
    | some (ds, os) => match E.val f (v :: ds) with
     | some (r, _) => some (r, if os.isEmpty || r.scal then H else frz H os)
     | none => none
    | none => none
   | some (_, f) => E.ref f (.d v :: kmap (krd E fr) args) H
   | none => none
  | _ => none
def k_mkmap  (_E : Env) (_fr : Fr) (H : Heap) (id : Nat) : Option (PV × Heap) := some (.h id, H.put id (some (.mp [])))
def k_mget (ky : Ky) (z : DV) (ok : Bool) (x : Rand) (i : Rand) (E : Env) (fr : Fr) (H : Heap) (_id : Nat) : Option (PV × Heap) := match krd E fr i, krd E fr x with
  | .d k, .h o => if kyOK ky k then match kobj H o with
   | some (.mp es) => match getK k es with
    | some r => some (if ok then .t [.d (r.getD z), .d (.b r.isSome)] else .d (r.getD z), H)
    | none => none
   | _ => none
   else none
  | _, _ => none
def k_mset (ky : Ky) (x : Rand) (i : Rand) (v : Rand) (E : Env) (fr : Fr) (H : Heap) (_id : Nat) : Option (PV × Heap) := match krd E fr i, krd E fr x, pur H (krd E fr v) with
  | .d k, .h o, some (xv, os) => if kyOK ky k then match kobj H o with
   | some (.mp es) => match putK k xv es with
    | some es' => some (.u, (frz H os).put o (some (.mp es')))
    | none => none
   | _ => none
   else none
  | _, _, _ => none
def k_mdel (ky : Ky) (x : Rand) (i : Rand) (E : Env) (fr : Fr) (H : Heap) (_id : Nat) : Option (PV × Heap) := match krd E fr i, krd E fr x with
  | .d k, .h o => if kyOK ky k then match kobj H o with
   | some (.mp es) => match delK k es with
    | some es' => some (.u, H.put o (some (.mp es')))
    | none => none
   | _ => none
   else none
  | _, _ => none
def k_mlen (x : Rand) (E : Env) (fr : Fr) (H : Heap) (_id : Nat) : Option (PV × Heap) := match krd E fr x with
  | .h o => match kobj H o with
   | some (.mp es) => some (.d (.i .i64 es.length), H)
   | _ => none
  | _ => none
def k_rngS (x : Rand) (E : Env) (fr : Fr) (H : Heap) (id : Nat) : Option (PV × Heap) := match krd E fr x with
  | .d (.s l) => some (.h id, H.put id (some (.si l 0)))
  | _ => none
def k_nxt (x : Rand) (E : Env) (fr : Fr) (H : Heap) (_id : Nat) : Option (PV × Heap) := match krd E fr x with
  | .h o => match kobj H o with
   | some (.si l pos) =>
    if pos < l.length then
     let c := Utf8.decode ⟨l.toArray⟩ pos
     some (.t [.d (.b true), .d (.i .i64 pos), .d (.i .i32 c.1)], H.put o (some (.si l (pos + c.2))))
    else some (.t [.d (.b false)], H)
   | _ => none
  | _ => none
def k_sb (x : Rand) (E : Env) (fr : Fr) (H : Heap) (_id : Nat) : Option (PV × Heap) := match krd E fr x with
  | .d (.s _) => none
  | y => match elemsA H none y with
   | some es => match dbytes es with | some l => some (.d (.s l), H) | none => none
   | none => none
def k_bs (x : Rand) (E : Env) (fr : Fr) (H : Heap) (_id : Nat) : Option (PV × Heap) := match krd E fr x with
  | .d (.s l) => some (.d (.l none (bytesOf l) false), H)
  | _ => none
def k_dfr (x : Rand) (y : Rand) (E : Env) (fr : Fr) (H : Heap) (_id : Nat) : Option (PV × Heap) := match krd E fr x, krd E fr y with
  | .f n caps, .u => some (.g (.f n caps), H)
  | _, _ => none
def k_bad  (_E : Env) (_fr : Fr) (_H : Heap) (_id : Nat) : Option (PV × Heap) := none
def kop (op : IOp) : Env → Fr → Heap → Nat → Option (PV × Heap) := @IOp.rec (fun _ => Env → Fr → Heap → Nat → Option (PV × Heap)) k_mov k_pick k_alloc k_box k_agg k_bsl k_load k_store k_bin k_eqv k_eqb k_isnil k_un k_conv k_slS k_sl k_faddr k_field k_iaddr k_iaddrA k_idxS k_idxA k_len k_app k_call k_callv k_ext k_mkf k_mkm k_prim k_nilck k_mksl k_minmax k_copy k_clr k_mkif k_tas k_invk k_mkmap k_mget k_mset k_mdel k_mlen k_rngS k_nxt k_sb k_bs k_dfr k_bad op
theorem kop_eq (op : IOp) (E : Env) (fr : Fr) (H : Heap) (id : Nat) : kop op E fr H id = evalOp E (rd E fr) H id op := by
 rw [← krd_eq]
 have ko : kobj = Heap.obj := by funext H o; exact kobj_eq H o
 cases op with
 | mov x => show k_mov x E fr H id = _; simp only [k_mov, evalOp] <;> rfl
 | pick c a b => show k_pick c a b E fr H id = _; simp only [k_pick, evalOp] <;> rfl
 | alloc k z => show k_alloc k z E fr H id = _; simp only [k_alloc, evalOp] <;> rfl
 | box k x => show k_box k x E fr H id = _; simp only [k_box, evalOp] <;> rfl
 | agg z parts => show k_agg z parts E fr H id = _; simp only [k_agg, evalOp] <;> rfl
 | bsl k z len parts => show k_bsl k z len parts E fr H id = _; simp only [k_bsl, evalOp] <;> rfl
 | load k x => show k_load k x E fr H id = _; simp only [k_load, evalOp, kloadA] <;> rfl
 | store k x y => show k_store k x y E fr H id = _; simp only [k_store, evalOp, kstoreA] <;> rfl
 | bin op x y => show k_bin op x y E fr H id = _; simp only [k_bin, evalOp, kbinA] <;> rfl
 | eqv neg n x y => show k_eqv neg n x y E fr H id = _; simp only [k_eqv, evalOp] <;> rfl
 | eqb neg x y => show k_eqb neg x y E fr H id = _; simp only [k_eqb, evalOp] <;> rfl
 | isnil neg kd x => show k_isnil neg kd x E fr H id = _; simp only [k_isnil, evalOp] <;> rfl
 | un op x => show k_un op x E fr H id = _; simp only [k_un, evalOp] <;> rfl
 | conv k x => show k_conv k x E fr H id = _; simp only [k_conv, evalOp] <;> rfl
 | slS x lo hi => show k_slS x lo hi E fr H id = _; simp only [k_slS, evalOp] <;> rfl
 | sl k x lo hi mx => show k_sl k x lo hi mx E fr H id = _; simp only [k_sl, evalOp] <;> rfl
 | faddr off x => show k_faddr off x E fr H id = _; simp only [k_faddr, evalOp, kmoveA] <;> rfl
 | field off k x => show k_field off k x E fr H id = _; simp only [k_field, evalOp] <;> rfl
 | iaddr k x i => show k_iaddr k x i E fr H id = _; simp only [k_iaddr, evalOp, kiaddr] <;> rfl
 | iaddrA len k x i => show k_iaddrA len k x i E fr H id = _; simp only [k_iaddrA, evalOp, kmoveA] <;> rfl
 | idxS x i => show k_idxS x i E fr H id = _; simp only [k_idxS, evalOp] <;> rfl
 | idxA len k x i => show k_idxA len k x i E fr H id = _; simp only [k_idxA, evalOp] <;> rfl
 | len str x => show k_len str x E fr H id = _; simp only [k_len, evalOp, klenA] <;> rfl
 | app k bytes x y => show k_app k bytes x y E fr H id = _; simp only [k_app, evalOp] <;> rfl
 | call m f args => match m with
  | 0 => show k_call0 f args E fr H id = _; simp only [k_call0, evalOp, kmap_eq] <;> rfl
  | 1 => show k_call1 f args E fr H id = _; simp only [k_call1, evalOp, kmap_eq] <;> rfl
  | m + 2 => show k_call2 f args E fr H id = _; simp only [k_call2, evalOp, kmap_eq] <;> rfl
 | callv x args => show k_callv x args E fr H id = _; simp only [k_callv, evalOp, kmap_eq] <;> rfl
 | ext x i => show k_ext x i E fr H id = _; simp only [k_ext, evalOp] <;> rfl
 | mkf f caps => show k_mkf f caps E fr H id = _; simp only [k_mkf, evalOp, kmap_eq] <;> rfl
 | mkm f caps => show k_mkm f caps E fr H id = _; simp only [k_mkm, evalOp, kmap_eq] <;> rfl
 | prim p args => show k_prim p args E fr H id = _; simp only [k_prim, evalOp, kmap_eq] <;> rfl
 | nilck x => show k_nilck x E fr H id = _; simp only [k_nilck, evalOp] <;> rfl
 | mksl k bytes z len cap => show k_mksl k bytes z len cap E fr H id = _; simp only [k_mksl, evalOp] <;> rfl
 | minmax mx args => show k_minmax mx args E fr H id = _; simp only [k_minmax, evalOp, kmap_eq] <;> rfl
 | copy k x y => show k_copy k x y E fr H id = _; simp only [k_copy, evalOp, ko] <;> rfl
 | clr k z x => show k_clr k z x E fr H id = _; simp only [k_clr, evalOp, ko] <;> rfl
 | mkif t x => show k_mkif t x E fr H id = _; simp only [k_mkif, evalOp] <;> rfl
 | tas t z ok x => show k_tas t z ok x E fr H id = _; simp only [k_tas, evalOp] <;> rfl
 | invk tab x args => show k_invk tab x args E fr H id = _; simp only [k_invk, evalOp, kmap_eq] <;> rfl
 | mkmap  => show k_mkmap  E fr H id = _; simp only [k_mkmap, evalOp] <;> rfl
 | mget ky z ok x i => show k_mget ky z ok x i E fr H id = _; simp only [k_mget, evalOp, ko] <;> rfl
 | mset ky x i v => show k_mset ky x i v E fr H id = _; simp only [k_mset, evalOp, ko] <;> rfl
 | mdel ky x i => show k_mdel ky x i E fr H id = _; simp only [k_mdel, evalOp, ko] <;> rfl
 | mlen x => show k_mlen x E fr H id = _; simp only [k_mlen, evalOp, ko] <;> rfl
 | rngS x => show k_rngS x E fr H id = _; simp only [k_rngS, evalOp] <;> rfl
 | nxt x => show k_nxt x E fr H id = _; simp only [k_nxt, evalOp, ko] <;> rfl
 | sb x => show k_sb x E fr H id = _; simp only [k_sb, evalOp] <;> rfl
 | bs x => show k_bs x E fr H id = _; simp only [k_bs, evalOp] <;> rfl
 | dfr x y => show k_dfr x y E fr H id = _; simp only [k_dfr, evalOp] <;> rfl
 | bad  => show k_bad  E fr H id = _; simp only [k_bad, evalOp] <;> rfl
def kdst (d : Option Nat) (fr : Fr) (v : PV) : Fr := @Option.rec Nat (fun _ => Fr) fr (fun t => kset fr t v) d
abbrev KCf := Env → Nat → Fr → Heap → Option St
def kadd (op : IOp) (id : Nat) : Nat := @Bool.rec (fun _ => Nat) id (Nat.succ id) op.adds
def kgo (dst : Option Nat) (op : IOp) (ih : KCf) (E : Env) (id : Nat) (fr : Fr) (H : Heap) : Option St := @Option.rec (PV × Heap) (fun _ => Option St) none (fun p => @Prod.rec PV Heap (fun _ => Option St) (fun v H' => ih E (kadd op id) (kdst dst fr v) H') p) (kop op E fr H id)
def kno (dst : Option Nat) (op : IOp) (ih : KCf) (E : Env) (id : Nat) (fr : Fr) (H : Heap) : Option St := ih E (kadd op id) (kdst dst fr (.t [])) H
def kguard (v : PV) (want : Bool) (go no : Option St) : Option St := match v with
 | .d (.b b) => if b == want then go else no
 | .t [] => no
 | _ => none
def kstep (dst : Option Nat) (op : IOp) (g : Option (Nat × Bool)) (ih : KCf) (E : Env) (id : Nat) (fr : Fr) (H : Heap) : Option St :=
 @Option.rec (Nat × Bool) (fun _ => Option St) (kgo dst op ih E id fr H) (fun p => @Prod.rec Nat Bool (fun _ => Option St) (fun t want => kguard (kget fr t) want (kgo dst op ih E id fr H) (kno dst op ih E id fr H)) p) g
def kops (l : List IOper) : KCf := @List.rec IOper (fun _ => KCf) (fun _ _ fr H => some ⟨fr, H⟩) (fun o _ ih => @IOper.rec (fun _ => KCf) (fun dst op g => kstep dst op g ih) o) l
def sdst (d : Option Nat) (fr : Fr) (v : PV) : Fr := match d with | some t => fr.set t v | none => fr
theorem kops_eq (E : Env) : ∀ (l : List IOper) (id : Nat) (fr : Fr) (H : Heap), kops l E id fr H = evalOps E l id ⟨fr, H⟩
 | [], id, fr, H => rfl
 | ⟨dst, op, g⟩ :: r, id, fr, H => by
  have ih := kops_eq E r
  have hadd : kadd op id = if op.adds then id + 1 else id := by unfold kadd; cases op.adds <;> rfl
  have hd : ∀ v, kdst dst fr v = sdst dst fr v := by intro v; cases dst <;> simp [kdst, kset_eq, sdst]
  have hgo : kgo dst op (kops r) E id fr H = match evalOp E (rd E fr) H id op with | some (v, H') => evalOps E r (if op.adds then id + 1 else id) ⟨sdst dst fr v, H'⟩ | none => none := by
   unfold kgo
   rw [kop_eq]
   cases h : evalOp E (rd E fr) H id op with
   | none => rfl
   | some p => obtain ⟨v, H'⟩ := p; show kops r E _ _ _ = _; rw [ih, hadd, hd]
  have hno : kno dst op (kops r) E id fr H = evalOps E r (if op.adds then id + 1 else id) ⟨sdst dst fr (.t []), H⟩ := by
   unfold kno; rw [ih, hadd, hd]
  show kstep dst op g (kops r) E id fr H = _
  unfold kstep
  rw [evalOps, hgo, hno]
  cases g with
  | none => cases dst <;> rfl
  | some p =>
   obtain ⟨t, want⟩ := p
   show kguard (kget fr t) want _ _ = _
   rw [kget_eq]
   cases dst <;> rfl
def kreg (ops : List IOper) (kill : List Nat) (E : Env) (fr : Fr) (H : Heap) : Option St := @Option.rec St (fun _ => Option St) none (fun s => @St.rec (fun _ => Option St) (fun fr' H' => some ⟨kdrop kill fr', H'⟩) s) (kops ops E (klen H) fr (kapp H (krep none (nadds ops) [])))
theorem kreg_eq (ops : List IOper) (kill : List Nat) (E : Env) (fr : Fr) (H : Heap) : kreg ops kill E fr H = evalReg E ops kill ⟨fr, H⟩ := by
 unfold kreg evalReg
 rw [kops_eq, klen_eq, kapp_eq, krep_eq, List.append_nil]
 cases evalOps E ops H.length ⟨fr, H ++ List.replicate (nadds ops) none⟩ with
 | none => rfl
 | some s => obtain ⟨fr', H'⟩ := s; show some _ = _; rw [kdrop_eq]
abbrev KR := Env → ((St → Res) → St → Res) → Nat → Fr → Heap → Res
def kthen (r : Res) (f : Fr → Heap → Res) : Res := @Option.rec (Ex × St) (fun _ => Res) none (fun p => @Prod.rec Ex St (fun _ => Res) (fun e s => @Ex.rec (fun _ => Res) (@St.rec (fun _ => Res) f s) (fun j => some (.exit j, s)) (some (.ret, s)) e) p) r
def kc_skip : KR := fun _ _ _ fr H => some (.norm, ⟨fr, H⟩)
def kc_reg (ops : List IOper) (kill : List Nat) : KR := fun E _ _ fr H => @Option.rec St (fun _ => Res) none (fun s => some (.norm, s)) (kreg ops kill E fr H)
def kc_regD (ops : List IOper) (bf kill : List Nat) : KR := fun E _ _ fr H => match evalRegD E ops bf kill ⟨fr, H⟩ with | some s' => some (.norm, s') | none => none
def kc_seq (_ _ : PC) (a b : KR) : KR := fun E lp base fr H => kthen (a E lp base fr H) fun fr H => b E lp base fr H
def kc_cond (c : Rand) (_ _ : PC) (x y : KR) : KR := fun E lp base fr H => match krd E fr c with
 | .d (.b true) => x E lp base fr H
 | .d (.b false) => y E lp base fr H
 | _ => none
def kblk (id : Nat) (r : Res) : Res := @Option.rec (Ex × St) (fun _ => Res) none (fun p => @Prod.rec Ex St (fun _ => Res) (fun e s => @Ex.rec (fun _ => Res) (some (.norm, s)) (fun j => @Bool.rec (fun _ => Res) (some (.exit j, s)) (some (.norm, s)) (Nat.beq j id)) (some (.ret, s)) e) p) r
def kc_block (id : Nat) (_ : PC) (x : KR) : KR := fun E lp base fr H => kblk id (x E lp base fr H)
def kround (live : List Nat) (x : KR) (E : Env) (lp : (St → Res) → St → Res) (base : Nat) (s : St) : Res := @St.rec (fun _ => Res) (fun fr H => x E lp base fr H) (gc live base s)
def kc_loop (live : List Nat) (_ : PC) (x : KR) : KR := fun E lp base fr H => lp (kround live x E lp base) ⟨fr, H⟩
def kc_rng (f : Rand) (g : Nat) (ps live : List Nat) (a x : PC) (_ _ : KR) : KR := fun E lp base fr H => evalC E lp base (.rng f g ps live a x) ⟨fr, H⟩
def kc_exit (id : Nat) : KR := fun _ _ _ fr H => some (.exit id, ⟨fr, H⟩)
def kc_ret : KR := fun _ _ _ fr H => some (.ret, ⟨fr, H⟩)
def kc_bad : KR := fun _ _ _ _ _ => none
def kev (c : PC) : KR := @PC.rec (fun _ => KR) kc_skip kc_reg kc_regD kc_seq kc_cond kc_block kc_loop kc_rng kc_exit kc_ret kc_bad c
theorem kev_eq (E : Env) (lp : (St → Res) → St → Res) (base : Nat) : ∀ (c : PC) (fr : Fr) (H : Heap), kev c E lp base fr H = evalC E lp base c ⟨fr, H⟩ := by
 intro c
 induction c with
 | skip => intro fr H; rfl
 | reg ops kill =>
  intro fr H
  show @Option.rec St (fun _ => Res) none (fun s => some (.norm, s)) (kreg ops kill E fr H) = _
  rw [kreg_eq, evalC]; cases evalReg E ops kill ⟨fr, H⟩ <;> rfl
 | regD ops bf kill => intro fr H; rfl
 | seq a b iha ihb =>
  intro fr H
  show kthen (kev a E lp base fr H) (fun fr H => kev b E lp base fr H) = _
  rw [iha, evalC]
  cases evalC E lp base a ⟨fr, H⟩ with
  | none => rfl
  | some p =>
   obtain ⟨e, s⟩ := p
   cases e with
   | norm => obtain ⟨fr', H'⟩ := s; exact ihb fr' H'
   | exit j => rfl
   | ret => rfl
 | cond c x y ihx ihy =>
  intro fr H
  show kc_cond c x y (kev x) (kev y) E lp base fr H = _
  unfold kc_cond
  rw [krd_eq, evalC, ihx, ihy]
  rfl
 | block id x ih =>
  intro fr H
  show kblk id (kev x E lp base fr H) = _
  rw [ih, evalC]
  cases evalC E lp base x ⟨fr, H⟩ with
  | none => rfl
  | some p =>
   obtain ⟨e, s⟩ := p
   cases e with
   | norm => rfl
   | exit j =>
    show @Bool.rec (fun _ => Res) (some (.exit j, s)) (some (.norm, s)) (Nat.beq j id) = if j == id then _ else _
    have : (j == id) = Nat.beq j id := by by_cases h : j = id; · { subst h; rw [Nat.beq_refl]; simp }; · { rw [beq_ne h]; simpa using h }
    rw [this]
    cases Nat.beq j id <;> rfl
   | ret => rfl
 | loop live x ih =>
  intro fr H
  show lp (kround live (kev x) E lp base) ⟨fr, H⟩ = _
  rw [evalC]
  congr 1
  funext s
  exact ih _ _
 | rng f g ps live a x iha ihx => intro fr H; rfl
 | exit id => intro fr H; rfl
 | ret => intro fr H; rfl
 | bad => intro fr H; rfl
def klp (n : Nat) : (St → Res) → St → Res := @Nat.rec (fun _ => (St → Res) → St → Res) (fun _ _ => none) (fun _ ih f s => @Option.rec (Ex × St) (fun _ => Res) none (fun p => @Prod.rec Ex St (fun _ => Res) (fun e s' => @Ex.rec (fun _ => Res) (ih f s') (fun j => some (.exit j, s')) (some (.ret, s')) e) p) (f s)) n
theorem klp_eq : ∀ n, klp n = lpN n
 | 0 => rfl
 | n + 1 => by
  funext f s
  have ih := klp_eq n
  show @Option.rec (Ex × St) (fun _ => Res) none (fun p => @Prod.rec Ex St (fun _ => Res) (fun e s' => @Ex.rec (fun _ => Res) (klp n f s') (fun j => some (.exit j, s')) (some (.ret, s')) e) p) (f s) = _
  rw [ih, lpN]
  cases f s with
  | none => rfl
  | some p => obtain ⟨e, s'⟩ := p; cases e <;> rfl
def kfin (E : Env) (rs : List RV) (s : St) : Option (PV × Heap) := match runG E (ghosts s.fr) s.H with
   | some H' => match results s.fr H' rs with
    | some vs => some (packed vs, H')
    | none => none
   | none => none
def kend (E : Env) (rs : List RV) (r : Res) : Option (PV × Heap) := @Option.rec (Ex × St) (fun _ => Option (PV × Heap)) none (fun p => @Prod.rec Ex St (fun _ => Option (PV × Heap)) (fun e s => @Ex.rec (fun _ => Option (PV × Heap)) (kfin E rs s) (fun _ => none) (kfin E rs s) e) p) r
def kargs : List PV → Nat → Fr := fun l => @List.rec PV (fun _ => Nat → Fr) (fun _ => []) (fun v _ ih j => kapp (ih (Nat.succ j)) [(j, v)]) l
theorem kargs_eq : ∀ (l : List PV) (j : Nat), kargs l j = Fr.ofArgs j l
 | [], j => rfl
 | v :: r, j => by show kapp (kargs r (j + 1)) [(j, v)] = _; rw [kapp_eq, kargs_eq r, Fr.ofArgs]
def kfn (E : Env) (lp : (St → Res) → St → Res) (F : PF) (args : List PV) (H : Heap) : Option (PV × Heap) := @PF.rec (fun _ => Option (PV × Heap)) (fun nargs rs body => @Bool.rec (fun _ => Option (PV × Heap)) none (kend E rs (kev body E lp (klen H) (kargs args 0) H)) (Nat.beq (klen args) nargs)) F
theorem kfn_eq (E : Env) (lp : (St → Res) → St → Res) (F : PF) (args : List PV) (H : Heap) : kfn E lp F args H = evalF E lp F args H := by
 obtain ⟨nargs, rs, body⟩ := F
 show @Bool.rec (fun _ => Option (PV × Heap)) none (kend E rs (kev body E lp (klen H) (kargs args 0) H)) (Nat.beq (klen args) nargs) = _
 rw [klen_eq, klen_eq, kev_eq, kargs_eq]
 unfold evalF
 by_cases h : args.length = nargs
 ·rw [if_pos h, h, Nat.beq_refl]
  show kend E rs (evalC E lp H.length body ⟨Fr.ofArgs 0 args, H⟩) = _
  cases evalC E lp H.length body ⟨Fr.ofArgs 0 args, H⟩ with
  | none => rfl
  | some p => obtain ⟨e, s⟩ := p; cases e <;> rfl
 ·rw [if_neg h, beq_ne h]
abbrev KY := Nat → List PV → Heap → Option (PV × Heap)
structure KP where
 it : KY → KY
 val : Nat → List DV → Option (PV × Bool)
def kitF (E : Env) (lp : (St → Res) → St → Res) (args : List PV) (H : Heap) (F : PF) : Option (PV × Heap) := @Option.rec (PV × Heap) (fun _ => Option (PV × Heap)) none (fun p => @Prod.rec PV Heap (fun _ => Option (PV × Heap)) (fun v H' => some (gcV (klen H) v H')) p) (kfn E lp F args H)
def kit (T : Tab) (n : Nat) (P : KP) (Y : KY) (f : Nat) (args : List PV) (H : Heap) : Option (PV × Heap) := @Option.rec PF (fun _ => Option (PV × Heap)) (T.R f args H) (kitF ⟨T.G, P.it noY, P.val, Y, P.it, T.dok⟩ (klp n) args H) (T.F f)
def kvalF (E : Env) (lp : (St → Res) → St → Res) (args : List DV) (F : PF) : Option (PV × Bool) := @Option.rec (PV × Heap) (fun _ => Option (PV × Bool)) none (fun p => @Prod.rec PV Heap (fun _ => Option (PV × Bool)) (fun v H' => purT H' v) p) (kfn E lp F (kmap .d args) [])
def kval (T : Tab) (n : Nat) (P : KP) (f : Nat) (args : List DV) : Option (PV × Bool) := @Option.rec PF (fun _ => Option (PV × Bool)) (T.X f args) (kvalF ⟨T.G, P.it noY, P.val, noY, P.it, T.dok⟩ (klp n) args) (T.F f)
def kN (T : Tab) (n : Nat) : KP := @Nat.rec (fun _ => KP) ⟨fun _ _ _ _ => none, fun _ _ => none⟩ (fun n P => ⟨kit T n P, kval T n P⟩) n
theorem kN_eq (T : Tab) : ∀ n, (kN T n).it = itN T n ∧ (kN T n).val = valN T n
 | 0 => ⟨by funext Y f a H; rw [itN]; rfl, by funext f a; rw [valN]; rfl⟩
 | n + 1 => by
  obtain ⟨h1, h2⟩ := kN_eq T n
  constructor
  ·funext Y f a H
   show kit T n (kN T n) Y f a H = _
   rw [itN_succ]
   unfold kit
   cases T.F f with
   | none => rfl
   | some F =>
    show kitF _ (klp n) a H F = _
    unfold kitF
    rw [h1, h2, klp_eq, kfn_eq, klen_eq]
    show @Option.rec (PV × Heap) (fun _ => Option (PV × Heap)) none _ (evalF (envY T n Y) (lpN n) F a H) = _
    dsimp only
    cases evalF (envY T n Y) (lpN n) F a H with
    | none => rfl
    | some p => rfl
  ·funext f a
   show kval T n (kN T n) f a = _
   rw [valN_succ]
   unfold kval
   cases T.F f with
   | none => rfl
   | some F =>
    show kvalF _ (klp n) a F = _
    unfold kvalF
    rw [h1, h2, klp_eq, kfn_eq, kmap_eq]
    show @Option.rec (PV × Heap) (fun _ => Option (PV × Bool)) none _ (evalF (envN T n) (lpN n) F (a.map .d) []) = _
    dsimp only
    cases evalF (envN T n) (lpN n) F (a.map .d) [] with
    | none => rfl
    | some p => rfl
theorem val_run {T : Tab} {f : Nat} {args : List DV} {r : PV × Bool} (n : Nat) (h : (kN T n).val f args = some r) : T.val f args = some r := (val_some T f args r).2 ⟨n, by rw [← (kN_eq T n).2]; exact h⟩
end
end Go.Sim
end
