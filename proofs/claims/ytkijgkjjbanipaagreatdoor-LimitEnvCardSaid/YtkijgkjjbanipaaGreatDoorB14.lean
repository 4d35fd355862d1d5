/- Part 14 of the proof: CbJ7, CbKk, CbJ8, CbJ9. -/
import Derived.Test.YtkijgkjjbanipaaGreatDoorB13
set_option linter.all false
section
open Go.Sim
attribute [local simp ↓] kC_skip kC_ret kC_exit kC_seq kC_block kC_reg kC_cond kC_condc sqK blK lpK kO_nil kO_O kO_E kO_OG kO_EG grd_b grd_t tst_b brn_true brn_false brn_not chk_T b_mov b_pick b_alloc b_box b_load b_store b_bin b_un b_eqv b_faddr b_field b_iaddr b_sl b_len b_app b_call b_call1 b_callR b_ext bo_some bo_none bo2_some bo2_none bo_iaddr bo_addS bo_quo bo_rem bo_bnd bo_bnd0 ld_q0 ld_qw ld_p subP0 subPw bo_moveP bo_moveQ bo_lenl bo_lens bo_lenr bo_add bo_sub bo_mul bo_eql bo_neq bo_lss bo_leq bo_gtr bo_geq bo_neg bo_not bo_eqS bo_neS grd_nb b_slS slSK_s extK_t ownL_l fin_ret fin_norm bo_res0 bo_rest bo_resc st_p stK_box b_callv callvK_f0 callvK_f1 mkf_b subPs ld_qs kC_regS0 kC_regS1 kC_regS2 kC_regS3 kC_regS4 kC_regS5 b_eqb eqbK_b b_agg0 b_bsl0 b_bsl1 app_l app_r appE_n appE_r bo_lenR b_mkif mkifK_d b_tas tasK_i b_mm2 bo_mm2
attribute [local simp] K_refl obj_0 obj_s get_c get_n drop_c drop_n set_c set_n fix_c fix_n rd IOp.adds nadds gh nid rgK rdS ghosts_c ghosts_n packed1 packed2 purT_b purT_i purT_s purT_a purT_lt purT_lf K_ss K_ns K_sn plains_n plains_c env_val env_ref purs_n purs_d put_0 put_s fits_i fits_b fits_s fits_l lt0_nat fits_a purT_t pur_dv frz_n purT_r purT_f
section
namespace Go.Sim
set_option maxRecDepth 10000
set_option maxHeartbeats 4000000
def dOf (frm v : Int) : Nat := (max frm v - frm).toNat
def fDa (frm upto : Int) (es : List Int) (e : AEntry) (x : ALeg) : List Int := if e.Value ≤ upto then (match es[dOf frm e.Value]? with | some v => es.set (dOf frm e.Value) (w64 (v - x.Amount)) | none => es) else es
theorem fDa_len {frm upto : Int} {es : List Int} {e : AEntry} {x : ALeg} : (fDa frm upto es e x).length = es.length := by
 unfold fDa
 split
 ·split
  ·simp
  ·rfl
 ·rfl
def hsDa (frm upto : Int) (j : List AEntry) (t : Bool) (acc : Int) (n : Nat) (es : List Int) : Heap := [some (.box K0 (.d (I frm))), some (.box K0 (.d (I upto))), some (.sl K0 0 (es.map I)), some (.box K0 (.r 2 K0 0 n false)), some (.box K0 (.d (.l (K1 10) (j.map AEntry.dv) t))), some (.box K0 (.d (I acc))), some (.lp 0 none), some .df]
theorem ref50_d (T : Tab) (hT : HU T) (j : List AEntry) (t : Bool) (acc frm upto : Int) (n : Nat) (es : List DV) : T.ref 50 [.d (.l (K1 10) (j.map AEntry.dv) t), .d (I acc)] [some (.box K0 (.d (I frm))), some (.box K0 (.d (I upto))), some (.sl K0 0 es), some (.box K0 (.r 2 K0 0 n false))] = some (.f 59 [.p 4 0 0, .p 5 0 0], [some (.box K0 (.d (I frm))), some (.box K0 (.d (I upto))), some (.sl K0 0 es), some (.box K0 (.r 2 K0 0 n false)), some (.box K0 (.d (.l (K1 10) (j.map AEntry.dv) t))), some (.box K0 (.d (I acc)))]) := by
 rw [ref_k T (hT 50 F50 rfl) rfl]
 simp [F50, Fr.ofArgs, finR_ret, gcV, reach, heapRefs, orefs, Obj.refs, PV.refs, PV.refsL, place, gcH, PV.ren, PV.renL, Obj.ren, Heap.obj, List.idxOf?_cons]
theorem mvDa (T : Tab) (_hT : HU T) (frm upto : Int) (j : List AEntry) (t : Bool) (acc : Int) (n : Nat) (h1 : vday frm = true) (h2 : vday upto = true) (h3 : frm ≤ upto) (hn : (n : Int) = upto - frm + 1) : MvY (rngK T.env L880_0 L880_1 [(9, .p 3 0 0), (7, .p 1 0 0), (6, .p 0 0 0)] 6 [40, 41]) (List Int) (hsDa frm upto j t acc n) 8 6 4 5 j t acc (fun es => es.length = n) (fDa frm upto) where
 len _ := rfl
 cl _ := by intro r h; simp [hsDa, heapRefs, orefs, Obj.refs, PV.refs] at h; subst h; simp [hsDa]
 oj _ _ := rfl
 oa _ _ := rfl
 lo := ⟨by decide, by decide, by decide⟩
 hp _ _ _ h _ _ := by rw [fDa_len]; exact h
 y es e x hl _ _ _ := by
  simp only [vday, Bool.and_eq_true, decide_eq_true_eq] at h1 h2
  rw [rngK_go rfl rfl]
  by_cases hv : e.Value ≤ upto
  ·obtain ⟨m, hm⟩ : ∃ m, max frm e.Value = m := ⟨_, rfl⟩
   have hm1 : frm ≤ m ∧ m ≤ upto := by omega
   obtain ⟨k, hk⟩ : ∃ k, dOf frm e.Value = k := ⟨_, rfl⟩
   have hk1 : (k : Int) = m - frm := by rw [← hk, dOf, hm]; omega
   have w : IntKind.i64.wrap (m - frm) = (k : Int) := (wrI (by omega) (by omega)).trans hk1.symm
   have hk' : (k : Int) < n := by omega
   have hke : k < es.length := by omega
   have hg : es[k]? = some es[k] := List.getElem?_eq_getElem hke
   have ef : fDa frm upto es e x = es.set k (w64 (es[k] - x.Amount)) := by rw [fDa, if_pos hv, hk, hg]
   rw [ef]
   simp [L880_0, L880_1, hsDa, setA, hv, w, ↓bo_iaR, -st_p, ↓st_pm, ↓stM_box, ↓stM_sl, ↓subDw, hm, hl, hk', hg, ↓bo_mm2, List.getElem?_map]
   have ms : ∀ v, (es.map I).set k (I v) = (es.set k v).map I := fun v => List.map_set.symm
   rw [ms, ms]
   exact gcVd (H := hsDa frm upto j t acc n (es.set k (w64 (es[k] - x.Amount))) ++ [some (.box (K1 10) (.d e.dv)), some (.box (K1 3) (.d x.dv))]) (by intro r h; simp [hsDa, heapRefs, orefs, Obj.refs, PV.refs] at h; subst h; simp [hsDa]) [some (.box (K1 10) (.d e.dv))] (.b true)
  ·have ef : fDa frm upto es e x = es := by rw [fDa, if_neg hv]
   rw [ef]
   simp [L880_0, L880_1, hsDa, setA, hv]
   exact gcVd (H := hsDa frm upto j t acc n es ++ [some (.box (K1 10) (.d e.dv)), some (.box (K1 3) (.d x.dv))]) (by intro r h; simp [hsDa, heapRefs, orefs, Obj.refs, PV.refs] at h; subst h; simp [hsDa]) [some (.box (K1 10) (.d e.dv))] (.b true)
theorem lp880_2 (T : Tab) (es : List Int) (n : Nat) (hl : es.length = n) (hn : 0 < n) (hn2 : n < 5000) (hz : ∀ x ∈ es, w64 x = x) {k : KC (PV × Bool)} {fr : Fr} {H : Heap} (h0 : gc [9, 12] 0 ⟨fr, H⟩ = ⟨[(100041, .g (.h 0)), (12, .d (I 1)), (9, .p 1 0 0)], [some .df, some (.box K0 (.r 2 K0 0 n false)), some (.sl K0 0 (es.map I))]⟩) :
  kC T.env 0 fr H (.h (.loop [9, 12] L880_2, k)) = k (.exit 2) [(100041, .g (.h 0)), (61, .d (.b false)), (12, .d (I n)), (9, .p 1 0 0)] [some .df, some (.box K0 (.r 2 K0 0 n false)), some (.sl K0 0 ((psum 0 es).map I))] := by
 refine loop_iter (fun s : Nat × List Int => ⟨[(100041, .g (.h 0)), (12, .d (I s.1)), (9, .p 1 0 0)], [some .df, some (.box K0 (.r 2 K0 0 n false)), some (.sl K0 0 (s.2.map I))]⟩) (fun i => (i + 1, psP 0 (i + 1) es)) (n - 1) ?_ ?_ (by rw [h0, psP_1 _ hz]; rfl)
 ·intro B _
  have e : n - 1 + 1 = n := by omega
  have e2 : psP 0 n es = psum 0 es := psP_all _ _ _ (by omega)
  have e3 : (psum 0 es).length = n := by rw [psum_len, hl]
  simp only [e, e2]
  simp [L880_2, e3]
 ·intro B _ i hi c hc
  have hlen : (psP 0 (i + 1) es).length = n := by rw [psP_len, hl]
  have hst := psP_step es 0 i (by omega)
  obtain ⟨fs, hfs⟩ : ∃ fs, psP 0 (i + 1) es = fs := ⟨_, rfl⟩
  have g5' : i + 1 < fs.length := by rw [← hfs]; omega
  have hst' : psP 0 (i + 1 + 1) es = fs.set (i + 1) (w64 (fs[i + 1] + fs[i])) := by subst hfs; exact hst.symm
  simp only [hfs] at hlen
  clear hst
  simp only [hst'] at hc
  simp only [hfs]
  have g1 : (i : Int) + 1 < n := by omega
  have g2 : i + 1 < n := by omega
  have g3 : i < n := by omega
  have g4 : (i : Int) < n := by omega
  have g5 : i + 1 < fs.length := by omega
  have g6 : i < fs.length := by omega
  have g7 : (0 : Int) ≤ (i : Int) + 1 := by omega
  have g8 : ((i : Int) + 1).toNat = i + 1 := by omega
  have w1 : IntKind.i64.wrap ((i : Int) + 1 - 1) = i := by rw [wrI (by omega) (by omega)]; omega
  have w1' : IntKind.i64.wrap (i : Int) = i := wrI (by omega) (by omega)
  have w2 : IntKind.i64.wrap ((i : Int) + 1 + 1) = (i : Int) + 1 + 1 := wrI (by omega) (by omega)
  simp [L880_2, ↓kC_regD, ↓kDq_nil, ↓kDq_O, ↓kDq_E, ↓aftD_go, nfp_go, ↓d_mov, ↓d_load, ↓d_store, ↓d_bin, ↓d_iaddr, accD, writeS, touchS, footD, storeD, chg, roOf, runs, pairsD, disj, PV.refs, IOp.okD, Nat.testBit, hlen, g1, g2, g3, g4, g7, w1', w2, ↓bo_iaR, -st_p, ↓st_pm, ↓stM_sl, ↓subDw]
  refine hc _ _ ?_
  rw [show ∀ v, (fs.map I).set (i + 1) (DV.i .i64 v) = (fs.set (i + 1) v).map I from fun v => List.map_set.symm]
  simp [gc, Fr.keep, reach, frRefs, heapRefs, PV.refs, place, gcH, orefs, Obj.refs, PV.ren, Obj.ren, Heap.obj, Fr.ren, gh, List.idxOf?_cons, w64]
def okDay (frm upto : Int) : Bool := vday frm && (vday upto && (decide (frm ≤ upto) && decide (upto - frm < 4000)))
def zer (frm upto : Int) : List Int := List.replicate (upto - frm + 1).toNat 0
def dlyP (j : List AEntry) (acc frm upto : Int) : List Int := if okDay frm upto = true then psum 0 (foldN (mvE acc (fDa frm upto)) 0 (zer frm upto) j) else []
theorem fDa_nrm {frm upto : Int} {es : List Int} {e : AEntry} {x : ALeg} (h : ∀ y ∈ es, w64 y = y) : ∀ y ∈ fDa frm upto es e x, w64 y = y := by
 intro y hy
 unfold fDa at hy
 split at hy
 ·split at hy
  ·rcases List.mem_or_eq_of_mem_set hy with hy | rfl
   ·exact h y hy
   ·exact w64_idem _
  ·exact h y hy
 ·exact h y hy
theorem mvE_nrm {acc frm upto : Int} (P : List Int → Prop) (hP : ∀ es e x, P es → P (fDa frm upto es e x)) : ∀ (j : List AEntry) (i : Nat) (es : List Int), P es → P (foldN (mvE acc (fDa frm upto)) i es j)
 | [], _, _, h => h
 | e :: j, i, es, h => by
  rw [foldN]
  refine mvE_nrm P hP j _ _ ?_
  have : ∀ (l : List ALeg) (i : Nat) (es : List Int), P es → P (foldN (mvL acc (fDa frm upto) e) i es l) := by
   intro l
   induction l with
   | nil => intro _ _ h; exact h
   | cons x l ih =>
    intro i es h
    rw [foldN]
    refine ih _ _ ?_
    unfold mvL
    split
    ·exact hP _ _ _ h
    ·exact h
  exact this _ _ _ h
theorem val880 (T : Tab) (hT : HU T) (hV : HV T) (j : List AEntry) (t : Bool) (acc frm upto : Int) (hn : j.length ≤ maxLen) (ho : ∀ e ∈ j, e.Legs.l.length ≤ maxLen) : T.val 880 [.l (K1 10) (j.map AEntry.dv) t, I acc, I frm, I upto] = some (.d (.l K0 ((dlyP j acc frm upto).map I) false), true) := by
 rw [val_k T (hV 880 F880 rfl) rfl]
 have e1 := val22 T hV frm
 have e2 := val22 T hV upto
 by_cases hok : okDay frm upto = true
 ·have hd : dlyP j acc frm upto = psum 0 (foldN (mvE acc (fDa frm upto)) 0 (zer frm upto) j) := by rw [dlyP, if_pos hok]
  rw [hd]
  simp only [okDay, Bool.and_eq_true, decide_eq_true_eq] at hok
  obtain ⟨h1, h2, h3, h4⟩ := hok
  rw [h1] at e1
  rw [h2] at e2
  obtain ⟨h1a, h1b⟩ : 0 ≤ frm ∧ frm ≤ 73048 := by simpa [vday] using h1
  obtain ⟨h2a, h2b⟩ : 0 ≤ upto ∧ upto ≤ 73048 := by simpa [vday] using h2
  obtain ⟨n, hnn⟩ : ∃ n : Nat, (n : Int) = upto - frm + 1 := ⟨(upto - frm + 1).toNat, by omega⟩
  have w1 : IntKind.i64.wrap (upto - frm) = upto - frm := wrI (by omega) (by omega)
  have w2 : IntKind.i64.wrap (upto - frm + 1) = (n : Int) := by rw [wrI (by omega) (by omega)]; omega
  have g1 : ¬ upto < frm := by omega
  have g2 : ¬ (4000 ≤ upto - frm) := by omega
  have g3 : (n : Int) * 8 ≤ 140737488355328 := by omega
  have hz : (upto - frm + 1).toNat = n := by omega
  have e3 := ref50_d T hT j t acc frm upto n (List.replicate n (I 0))
  have e4 := it59 T hT (mvDa T hT frm upto j t acc n h1 h2 h3 hnn) hn ho (List.replicate n 0) (by simp)
  have hS : zer frm upto = List.replicate n 0 := by rw [zer, hz]
  rw [hS]
  have hlen : (foldN (mvE acc (fDa frm upto)) 0 (List.replicate n 0) j).length = n := mvE_nrm (fun es => es.length = n) (fun es e x h => by rw [fDa_len]; exact h) j 0 _ (by simp)
  have hnr : ∀ y ∈ foldN (mvE acc (fDa frm upto)) 0 (List.replicate n 0) j, w64 y = y := mvE_nrm (fun es => ∀ y ∈ es, w64 y = y) (fun es e x h => fDa_nrm h) j 0 _ (fun y hy => by rw [(List.mem_replicate.1 hy).2]; rfl)
  generalize foldN (mvE acc (fDa frm upto)) 0 (List.replicate n 0) j = fs at *
  have lp := fun k fr H => @lp880_2 T fs n hlen (by omega) (by omega) hnr k fr H
  have hpl : (psum 0 fs).length = n := by rw [psum_len, hlen]
  simp [F880, Fr.ofArgs, e1, e2, w1, w2, g1, g2, g3, b_mksl, bo_asI, fits_r, e3, ↓kC_rng, ↓rngS_f, env_it, Fr.only]
  simp only [hsDa, List.map_replicate] at e4
  refine (congrArg (fun z => bo z _) e4).trans ?_
  simp [rngE]
  refine (lp _ _ _ (by simp [gc, Fr.keep, reach, frRefs, heapRefs, PV.refs, place, gcH, orefs, Obj.refs, PV.ren, Obj.ren, Heap.obj, Fr.ren, gh, List.idxOf?_cons])).trans ?_
  have ht : ((psum 0 fs).map I).take n = (psum 0 fs).map I := List.take_of_length_le (by simp [hpl])
  simp [fin, runG, hpl, ht]
 ·have hd : dlyP j acc frm upto = [] := by rw [dlyP, if_neg hok]
  rw [hd]
  simp only [okDay, Bool.and_eq_true, decide_eq_true_eq] at hok
  have w1 : vday frm = true → vday upto = true → IntKind.i64.wrap (upto - frm) = upto - frm := by
   intro a b
   simp [vday] at a b
   exact wrI (by omega) (by omega)
  obtain ⟨a, ha⟩ : ∃ a, vday frm = a := ⟨_, rfl⟩
  obtain ⟨b, hb⟩ : ∃ b, vday upto = b := ⟨_, rfl⟩
  rw [ha] at e1 hok w1
  rw [hb] at e2 hok w1
  cases a <;> cases b <;> simp only [forall_const, Bool.false_eq_true, false_imp_iff] at w1
  all_goals simp [F880, Fr.ofArgs, e1, e2]
  repeat' (refine brn_split (fun h => ?_) (fun h => ?_) <;> (try simp at h) <;> (try simp [h, w1]))
  all_goals (simp at hok; omega)
def fDR (acc frm : Int) (_ : Nat) (es : List Int) (e : AEntry) : List Int := addF (dOf frm e.Value) (movedE acc e) es
def dly (j : List AEntry) (acc frm upto : Int) : List Int := if okDay frm upto = true then foldN (fDR acc frm) 0 (zer frm upto) j else []
theorem lp1037_0 (T : Tab) (j : List AEntry) (t : Bool) (acc frm upto v n : Int) (oi N : Nat) (es : List Int) (hl : es.length = N) (hN : (N : Int) = upto - frm + 1) (h1 : 0 ≤ frm) (h2 : upto ≤ 73048) {k : KC (PV × Bool)} {fr : Fr} {H : Heap} {r : Option (PV × Bool)}
  (hr : ∀ d b, k (.exit 2) [(60, .d (.b b)), (12, .d (I d)), (11, .d (I n)), (10, .d (I oi)), (9, .r 0 K0 0 N false), (3, .d (I upto)), (2, .d (I frm)), (1, .d (I acc)), (0, .d (.l (K1 10) (j.map AEntry.dv) t))] [some (.sl K0 0 ((if n = 0 then es else addF (dOf frm v) n es).map I))] = r)
  (h0 : gc [0, 1, 2, 3, 9, 10, 11, 12] 0 ⟨fr, H⟩ = ⟨[(12, .d (I (max frm v))), (11, .d (I n)), (10, .d (I oi)), (9, .r 0 K0 0 N false), (3, .d (I upto)), (2, .d (I frm)), (1, .d (I acc)), (0, .d (.l (K1 10) (j.map AEntry.dv) t))], [some (.sl K0 0 (es.map I))]⟩) :
  kC T.env 0 fr H (.h (.loop [0, 1, 2, 3, 9, 10, 11, 12] L1037_0, k)) = r := by
 obtain ⟨m, hm⟩ : ∃ m, max frm v = m := ⟨_, rfl⟩
 have hm1 : frm ≤ m := by omega
 obtain ⟨q, hq⟩ : ∃ q : Nat, dOf frm v = q := ⟨_, rfl⟩
 have hq1 : (q : Int) = m - frm := by rw [← hq, dOf, hm]; omega
 rw [hm] at h0
 rw [hq] at hr
 by_cases hn : n = 0
 ·subst hn
  simp only [if_true] at hr
  refine loop_iter (fun _ : Unit => ⟨[(12, .d (I m)), (11, .d (I 0)), (10, .d (I oi)), (9, .r 0 K0 0 N false), (3, .d (I upto)), (2, .d (I frm)), (1, .d (I acc)), (0, .d (.l (K1 10) (j.map AEntry.dv) t))], [some (.sl K0 0 (es.map I))]⟩) (fun _ => ()) 0 ?_ ?_ h0
  ·intro B _
   by_cases hu : m ≤ upto
   ·simp [L1037_0, hu, hr]
   ·simp [L1037_0, hu, hr]
  ·intro B _ i hi; exact absurd hi (Nat.not_lt_zero _)
 ·simp only [if_neg hn] at hr
  have hne : (n != 0) = true := by simpa using hn
  refine loop_iter (fun s : Int × List Int => ⟨[(12, .d (I s.1)), (11, .d (I n)), (10, .d (I oi)), (9, .r 0 K0 0 N false), (3, .d (I upto)), (2, .d (I frm)), (1, .d (I acc)), (0, .d (.l (K1 10) (j.map AEntry.dv) t))], [some (.sl K0 0 (s.2.map I))]⟩) (fun i => (m + i, addP q i n es)) (N - q) ?_ ?_ (by rw [h0, addP_0]; simp)
  ·intro B _
   have hu : ¬ m + ((N - q : Nat) : Int) ≤ upto := by omega
   have ha : addP q (N - q) n es = addF q n es := by
    by_cases hle : q ≤ N
    ·exact addP_all _ _ _ _ (by omega)
    ·rw [show N - q = 0 by omega, addP_0, addF_big _ _ _ (by omega)]
   simp only [ha]
   simp [L1037_0, hu, hr]
  ·intro B _ i hi c hc
   have hst := addP_step es q i n (by rw [addP_len]; omega)
   obtain ⟨fs, hfs⟩ : ∃ fs, addP q i n es = fs := ⟨_, rfl⟩
   have hlen : fs.length = N := by rw [← hfs, addP_len, hl]
   have g5 : q + i < fs.length := by omega
   have hst' : addP q (i + 1) n es = fs.set (q + i) (w64 (fs[q + i] + n)) := by subst hfs; exact hst.symm
   clear hst
   simp only [hst'] at hc
   simp only [hfs]
   have hu : m + (i : Int) ≤ upto := by omega
   have w1 : IntKind.i64.wrap (m + (i : Int) - frm) = ((q + i : Nat) : Int) := by rw [wrI (by omega) (by omega)]; omega
   have w2 : IntKind.i64.wrap (m + (i : Int) + 1) = m + (i : Int) + 1 := wrI (by omega) (by omega)
   obtain ⟨z, hz⟩ : ∃ z, q + i = z := ⟨_, rfl⟩
   simp only [hz] at w1 g5 hc
   have g6 : (z : Int) < N := by omega
   have g7 : z < N := by omega
   simp [L1037_0, hu, hne, w1, w2, hlen, g6, g7, ↓bo_iaR, -st_p, ↓st_pm, ↓stM_sl, ↓subDw]
   refine hc _ _ ?_
   rw [show ∀ v, (fs.map I).set z (DV.i .i64 v) = (fs.set z v).map I from fun v => List.map_set.symm]
   simp [gc, Fr.keep, reach, frRefs, heapRefs, PV.refs, place, gcH, orefs, Obj.refs, PV.ren, Obj.ren, Heap.obj, Fr.ren, gh, List.idxOf?_cons, w64]
   try omega
theorem fDR_len {acc frm : Int} : ∀ (j : List AEntry) (i : Nat) (es : List Int), (foldN (fDR acc frm) i es j).length = es.length
 | [], _, _ => rfl
 | e :: j, i, es => by rw [foldN, fDR_len j]; exact addF_len _ _ _
theorem lp1037_1 (T : Tab) (hU : HU T) (j : List AEntry) (t : Bool) (acc frm upto : Int) (N : Nat) (hN : (N : Int) = upto - frm + 1) (h1 : 0 ≤ frm) (h2 : upto ≤ 73048) (hn : j.length ≤ maxLen) (ho : ∀ e ∈ j, e.ok) {k : KC (PV × Bool)} {fr : Fr} {H : Heap}
  (h0 : gc [0, 1, 2, 3, 9, 10] 0 ⟨fr, H⟩ = ⟨[(10, .d (I 0)), (9, .r 0 K0 0 N false), (3, .d (I upto)), (2, .d (I frm)), (1, .d (I acc)), (0, .d (.l (K1 10) (j.map AEntry.dv) t))], [some (.sl K0 0 ((List.replicate N (0 : Int)).map I))]⟩) :
  kC T.env 0 fr H (.h (.loop [0, 1, 2, 3, 9, 10] L1037_1, k)) = k (.exit 0) [(38, .d (.b false)), (10, .d (I j.length)), (9, .r 0 K0 0 N false), (3, .d (I upto)), (2, .d (I frm)), (1, .d (I acc)), (0, .d (.l (K1 10) (j.map AEntry.dv) t))] [some (.sl K0 0 ((foldN (fDR acc frm) 0 (List.replicate N 0) j).map I))] := by
 have hm : maxLen = 9223372036854775807 := rfl
 rw [loop_rounds j (fun i (es : List Int) => ⟨[(10, .d (I i)), (9, .r 0 K0 0 N false), (3, .d (I upto)), (2, .d (I frm)), (1, .d (I acc)), (0, .d (.l (K1 10) (j.map AEntry.dv) t))], [some (.sl K0 0 (es.map I))]⟩) (fun _ es => es.length = N ∧ ∀ y ∈ es, w64 y = y) (fun i es x c => c (fDR acc frm i es x)) (fun es => k (.exit 0) [(38, .d (.b false)), (10, .d (I j.length)), (9, .r 0 K0 0 N false), (3, .d (I upto)), (2, .d (I frm)), (1, .d (I acc)), (0, .d (.l (K1 10) (j.map AEntry.dv) t))] [some (.sl K0 0 (es.map I))]) ?_ ?_ (b0 := List.replicate N 0) h0 ⟨by simp, fun y hy => by rw [(List.mem_replicate.1 hy).2]; rfl⟩]
 ·rw [rounds_fold (fDR acc frm) _ _ (fun _ _ _ _ => rfl)]
 ·intro B _ es _
  simp [L1037_1]
 ·intro B _ i es hi hs c hc
  obtain ⟨hs1, hs2⟩ := hs
  have h1' : (i : Int) < j.length := by omega
  have h3 : IntKind.i64.wrap ((i : Int) + 1) = (i : Int) + 1 := wrI (by omega) (by omega)
  have e := val1034 T hU j[i] acc (ho _ (List.getElem_mem hi))
  have hq : (if movedE acc j[i] = 0 then es else addF (dOf frm j[i].Value) (movedE acc j[i]) es) = fDR acc frm i es j[i] := by
   unfold fDR
   split
   ·rename_i hz; rw [hz, addF_zero _ _ hs2]
   ·rfl
  simp [L1037_1, h1', hi, e, ↓bo_mm2]
  refine lp1037_0 T j t acc frm upto j[i].Value (movedE acc j[i]) i N es hs1 hN h1 h2 (fun d b => ?_) (by simp [gc, Fr.keep, reach, frRefs, heapRefs, PV.refs, place, gcH, orefs, Obj.refs, PV.ren, Obj.ren, Heap.obj, Fr.ren, gh, List.idxOf?_cons])
  rw [hq]
  simp [h3]
  exact hc _ _ _ ⟨by rw [fDR, addF_len]; exact hs1, addF_nrm _ _ _ hs2⟩ (by simp [gc, Fr.keep, reach, frRefs, heapRefs, PV.refs, place, gcH, orefs, Obj.refs, PV.ren, Obj.ren, Heap.obj, Fr.ren, gh, List.idxOf?_cons])
theorem val1037 (T : Tab) (hU : HU T) (hV : HV T) (j : List AEntry) (t : Bool) (acc frm upto : Int) (hn : j.length ≤ maxLen) (ho : ∀ e ∈ j, e.ok) : T.val 1037 [.l (K1 10) (j.map AEntry.dv) t, I acc, I frm, I upto] = some (.d (.l K0 ((dly j acc frm upto).map I) false), true) := by
 rw [val_k T (hV 1037 F1037 rfl) rfl]
 by_cases hok : okDay frm upto = true
 ·have hd : dly j acc frm upto = foldN (fDR acc frm) 0 (zer frm upto) j := by rw [dly, if_pos hok]
  rw [hd]
  simp only [okDay, vday, Bool.and_eq_true, decide_eq_true_eq] at hok
  obtain ⟨⟨h1a, h1b⟩, ⟨h2a, h2b⟩, h3, h4⟩ := hok
  obtain ⟨n, hnn⟩ : ∃ n : Nat, (n : Int) = upto - frm + 1 := ⟨(upto - frm + 1).toNat, by omega⟩
  have w1 : IntKind.i64.wrap (upto - frm) = upto - frm := wrI (by omega) (by omega)
  have w2 : IntKind.i64.wrap (upto - frm + 1) = (n : Int) := by rw [wrI (by omega) (by omega)]; omega
  have g0 : ¬ frm < 0 := by omega
  have g0' : ¬ 73048 < upto := by omega
  have g1 : ¬ upto < frm := by omega
  have g2 : ¬ (4000 ≤ upto - frm) := by omega
  have g3 : (n : Int) * 8 ≤ 140737488355328 := by omega
  have hz : (upto - frm + 1).toNat = n := by omega
  have hS : zer frm upto = List.replicate n 0 := by rw [zer, hz]
  rw [hS]
  have lp := fun k fr H => @lp1037_1 T hU j t acc frm upto n hnn h1a h2b hn ho k fr H
  have hpl : (foldN (fDR acc frm) 0 (List.replicate n 0) j).length = n := by rw [fDR_len]; simp
  have ht : ((foldN (fDR acc frm) 0 (List.replicate n 0) j).map I).take n = (foldN (fDR acc frm) 0 (List.replicate n 0) j).map I := List.take_of_length_le (by simp [hpl])
  simp [F1037, Fr.ofArgs, w1, w2, g0, g0', g1, g2, g3, b_mksl, bo_asI]
  refine (lp _ _ _ (by simp [gc, Fr.keep, reach, frRefs, heapRefs, PV.refs, place, gcH, orefs, Obj.refs, PV.ren, Obj.ren, Heap.obj, Fr.ren, gh, List.idxOf?_cons])).trans ?_
  simp [hpl, ht]
 ·have hd : dly j acc frm upto = [] := by rw [dly, if_neg hok]
  rw [hd]
  simp only [okDay, vday, Bool.and_eq_true, decide_eq_true_eq] at hok
  by_cases ha : 0 ≤ frm ∧ frm ≤ upto ∧ upto ≤ 73048
  ·have w1 : IntKind.i64.wrap (upto - frm) = upto - frm := wrI (by omega) (by omega)
   simp [F1037, Fr.ofArgs]
   repeat' (refine brn_split (fun h => ?_) (fun h => ?_) <;> (try simp at h) <;> (try simp [h, w1]))
   all_goals omega
  ·simp [F1037, Fr.ofArgs]
   repeat' (refine brn_split (fun h => ?_) (fun h => ?_) <;> (try simp at h) <;> (try simp [h]))
   all_goals (exfalso; omega)
theorem psum_nrm : ∀ (l : List Int) (s : Int), ∀ y ∈ psum s l, w64 y = y
 | [], _, y, h => by simp [psum] at h
 | x :: l, s, y, h => by
  simp only [psum, List.mem_cons] at h
  rcases h with rfl | h
  ·exact w64_idem _
  ·exact psum_nrm l _ y h
theorem mvL_fDa (acc frm upto : Int) (e : AEntry) (hv : e.Value ≤ upto) (N : Nat) (hk : dOf frm e.Value < N) : ∀ (l : List ALeg) (i : Nat) (es : List Int), es.length = N → psum 0 (foldN (mvL acc (fDa frm upto) e) i es l) = addF (dOf frm e.Value) (foldN (fMov acc) i 0 l) (psum 0 es)
 | [], _, es, h => by rw [foldN, foldN, addF_zero _ _ (psum_nrm _ _)]
 | x :: l, i, es, h => by
  rw [foldN, foldN]
  by_cases ha : x.Account = acc
  ·have hke : dOf frm e.Value < es.length := by omega
   have e1 : mvL acc (fDa frm upto) e i es x = es.set (dOf frm e.Value) (w64 (es[dOf frm e.Value] + -x.Amount)) := by
    rw [mvL, if_pos ha, fDa, if_pos hv, List.getElem?_eq_getElem hke]; rfl
   have e2 : fMov acc i 0 x = w64 (-x.Amount + 0) := by
    rw [fMov, if_pos (by simpa using ha)]; congr 1; omega
   rw [e1, mvL_fDa acc frm upto e hv N hk l (i + 1) _ (by simpa using h), psum_set _ _ _ _ hke, addF_add, e2, mov_shift]
   rfl
  ·have e1 : mvL acc (fDa frm upto) e i es x = es := by rw [mvL, if_neg ha]
   have e2 : fMov acc i 0 x = 0 := by rw [fMov, if_neg (by simpa using ha)]
   rw [e1, mvL_fDa acc frm upto e hv N hk l (i + 1) _ h, e2]
theorem mvE_fDa (acc frm upto : Int) (N : Nat) (hN : (N : Int) = upto - frm + 1) (h0 : frm ≤ upto) (e : AEntry) (i : Nat) (es : List Int) (h : es.length = N) : psum 0 (mvE acc (fDa frm upto) i es e) = fDR acc frm i (psum 0 es) e := by
 unfold mvE fDR movedE
 by_cases hv : e.Value ≤ upto
 ·exact mvL_fDa acc frm upto e hv N (by unfold dOf; omega) _ _ _ h
 ·have : ∀ (l : List ALeg) (i : Nat), foldN (mvL acc (fDa frm upto) e) i es l = es := by
   intro l
   induction l with
   | nil => intro _; rfl
   | cons x l ih =>
    intro i
    have e1 : mvL acc (fDa frm upto) e i es x = es := by
     simp [mvL, fDa, hv]
    rw [foldN, e1, ih]
  rw [this, addF_big _ _ _ (by rw [psum_len, h]; unfold dOf; omega)]
theorem dly_fold (acc frm upto : Int) (N : Nat) (hN : (N : Int) = upto - frm + 1) (h0 : frm ≤ upto) : ∀ (j : List AEntry) (i : Nat) (es : List Int), es.length = N → psum 0 (foldN (mvE acc (fDa frm upto)) i es j) = foldN (fDR acc frm) i (psum 0 es) j
 | [], _, _, _ => rfl
 | e :: j, i, es, h => by
  have hl : (mvE acc (fDa frm upto) i es e).length = N := mvE_nrm (fun es => es.length = N) (fun es e x h => by rw [fDa_len]; exact h) [e] i es h
  rw [foldN, foldN, dly_fold acc frm upto N hN h0 j (i + 1) _ hl, mvE_fDa acc frm upto N hN h0 e i es h]
theorem dlyP_eq (j : List AEntry) (acc frm upto : Int) : dlyP j acc frm upto = dly j acc frm upto := by
 unfold dlyP dly
 split
 ·rename_i hok
  simp only [okDay, vday, Bool.and_eq_true, decide_eq_true_eq] at hok
  obtain ⟨⟨h1a, h1b⟩, ⟨h2a, h2b⟩, h3, h4⟩ := hok
  rw [dly_fold acc frm upto (upto - frm + 1).toNat (by omega) h3 j 0 _ (by simp [zer]), zer, psum_zeros]
 ·rfl
theorem dly_len (j : List AEntry) (acc frm upto : Int) : (dly j acc frm upto).length ≤ 4000 := by
 unfold dly
 split
 ·rename_i hok
  simp only [okDay, vday, Bool.and_eq_true, decide_eq_true_eq] at hok
  rw [fDR_len, zer, List.length_replicate]; omega
 ·simp
theorem val880' (T : Tab) (hT : HU T) (hV : HV T) (j : List AEntry) (t : Bool) (acc frm upto : Int) (hn : j.length ≤ maxLen) (ho : ∀ e ∈ j, e.Legs.l.length ≤ maxLen) : T.val 880 [.l (K1 10) (j.map AEntry.dv) t, I acc, I frm, I upto] = some (.d (.l K0 ((dly j acc frm upto).map I) false), true) := by
 rw [val880 T hT hV j t acc frm upto hn ho, dlyP_eq]
end Go.Sim
end
end
section
namespace Go.Sim
section
variable {R : Type} {E : Env} {fr : Fr} {H : Heap} {bf : List Nat} {acc : List (List Nat × List Nat)} {id : Nat} {j : KO R}
def allB (b : Nat) : Nat → Nat → Bool
 | _, 0 => true
 | i, n + 1 => b.testBit i && allB b (i + 1) n
theorem pairs_all (b : Nat) (t w : List Nat) : ∀ (acc : List (List Nat × List Nat)) (i : Nat), allB b i acc.length = true → pairsD b i acc t w = true
 | [], _, _ => rfl
 | x :: r, i, h => by
  simp only [List.length_cons, allB, Bool.and_eq_true] at h
  simp only [pairsD, h.1, Bool.true_or, Bool.true_and]
  exact pairs_all b t w r (i + 1) h.2
theorem kD_mov {d : Nat} {z : Rand} : kD E id fr H bf acc (.h ([⟨some d, .mov z, none⟩], j)) = j (fr.set d (rd E fr z)) H := by
 rw [kD_cons]
 simp only [stepD, evalOpD, IOp.okD, if_true, evalOp]
 have hw : writeS E ⟨some d, .mov z, none⟩ id ⟨fr, H⟩ ⟨fr.set d (rd E fr z), H⟩ = [] := by simp [writeS, runs, IOp.adds, IOp.okD, storeD, footD, chg]
 have ht : touchS E ⟨some d, .mov z, none⟩ ⟨fr, H⟩ = [] := by simp [touchS, runs, IOp.okD, footD]
 simp only [aftD, nfp, accD, chk, hw, ht, List.nil_append, pairsD_nil, if_true]
 rfl
theorem kD_app2 {d d2 : Nat} {k : K} {b : Nat} {x y z : Rand} (h : allB (bf.headD 0) 0 acc.length = true) : kD E id fr H bf acc (.h ([⟨some d, .app k b x y, none⟩, ⟨some d2, .mov z, none⟩], j)) = bo2 (evalOp E (rd E fr) H id (.app k b x y)) (.h fun v H' => chk (H'.length = H.length) (.h (j ((fr.set d v).set d2 (rd E (fr.set d v) z)) H'))) := by
 rw [kD_cons]
 simp only [stepD, evalOpD, IOp.okD, Bool.false_eq_true, if_false, IOp.barr, if_true]
 cases evalOp E (rd E fr) H id (.app k b x y) with
 | none => rfl
 | some p =>
  obtain ⟨v, H'⟩ := p
  simp only [bo2, chk]
  by_cases hl : H'.length = H.length
  ·have hb : Nat.beq H'.length H.length = true := by rw [hl]; exact Nat.beq_refl _
   rw [if_pos hl]
   simp only [hb, if_true, aftD, nfp, accD, chk, pairs_all _ _ _ _ _ h]
   rw [kD_mov]
  ·have hb : Nat.beq H'.length H.length = false := by
    cases h2 : Nat.beq H'.length H.length with
    | false => rfl
    | true => exact absurd (Nat.eq_of_beq_eq_true h2) hl
   rw [if_neg hl]
   simp only [hb, if_false, Bool.false_eq_true]
def clvD (E : Env) (H : Heap) (v : PV) (ds : Option (List DV)) {x : Option R} {q : PV → Heap → Option R} (_ : Hd (x, q)) : Option R := match v, ds with
 | .f n [], some ds => bo (E.val n ds) (.h fun r => q r.1 H)
 | _, _ => x
theorem d_callv {ρ : Rand → PV} {q : PV → Heap → Option R} {x : Rand} {as0 : List Rand} : bo2 (evalOpD E ρ H id (.callv x as0)) (.h q) = clvD E H (ρ x) (plains (as0.map ρ)) (.h (bo2 (evalOpD E ρ H id (.callv x as0)) (.h q), q)) := by
 unfold clvD
 split
 ·rename_i n ds hx hd
  have hk : IOp.okD ρ (.callv x as0) = true := by simp [IOp.okD, hx, hd]
  rw [bo2_ok hk]
  simp only [evalOp, hx, List.isEmpty_nil, if_true, hd]
  cases E.val n ds <;> rfl
 ·rfl
theorem clvD_f {n : Nat} {ds : List DV} {x : Option R} {q : PV → Heap → Option R} : clvD E H (.f n []) (some ds) (.h (x, q)) = bo (E.val n ds) (.h fun r => q r.1 H) := rfl
end
end Go.Sim
end
section
open Go.Sim
attribute [local simp ↓] kC_skip kC_ret kC_exit kC_seq kC_block kC_reg kC_cond kC_condc sqK blK lpK kO_nil kO_O kO_E kO_OG kO_EG grd_b grd_t tst_b brn_true brn_false brn_not chk_T b_mov b_pick b_alloc b_box b_load b_store b_bin b_un b_eqv b_faddr b_field b_iaddr b_sl b_len b_app b_call b_call1 b_callR b_ext bo_some bo_none bo2_some bo2_none bo_iaddr bo_addS bo_quo bo_rem bo_bnd bo_bnd0 ld_q0 ld_qw ld_p subP0 subPw bo_moveP bo_moveQ bo_lenl bo_lens bo_lenr bo_add bo_sub bo_mul bo_eql bo_neq bo_lss bo_leq bo_gtr bo_geq bo_neg bo_not bo_eqS bo_neS grd_nb b_slS slSK_s extK_t ownL_l fin_ret fin_norm bo_res0 bo_rest bo_resc st_p stK_box b_callv callvK_f0 callvK_f1 mkf_b subPs ld_qs kC_regS0 kC_regS1 kC_regS2 kC_regS3 kC_regS4 kC_regS5 b_eqb eqbK_b b_agg0 b_bsl0 b_bsl1 app_l app_r appE_n appE_r bo_lenR b_mkif mkifK_d b_tas tasK_i b_mm2 bo_mm2
attribute [local simp] K_refl obj_0 obj_s get_c get_n drop_c drop_n set_c set_n fix_c fix_n rd IOp.adds nadds gh nid rgK rdS ghosts_c ghosts_n packed1 packed2 purT_b purT_i purT_s purT_a purT_lt purT_lf K_ss K_ns K_sn plains_n plains_c env_val env_ref purs_n purs_d put_0 put_s fits_i fits_b fits_s fits_l lt0_nat fits_a purT_t pur_dv frz_n purT_r purT_f
section
namespace Go.Sim
set_option maxRecDepth 10000
set_option maxHeartbeats 4000000
theorem val884 (T : Tab) (hV : HV T) (n : Int) : T.val 884 [I n] = some (.d (.a [I 2, I n]), false) := by
 rw [val_k T (hV 884 F884 rfl) rfl]
 simp [F884, Fr.ofArgs, b_agg, agg_n, agg_c, cells_i, putAt, mkA, size_n]
theorem val885 (T : Tab) (hV : HV T) (n : Int) : T.val 885 [I n] = some (.d (.a [I 1, I n]), false) := by
 rw [val_k T (hV 885 F885 rfl) rfl]
 simp [F885, Fr.ofArgs, b_agg, agg_n, agg_c, cells_i, putAt, mkA, size_n]
def wth (n b : Int) : Bool := decide (-b ≤ n) && decide (n ≤ b)
theorem val1046 (T : Tab) (hV : HV T) (n b : Int) (hb : 0 ≤ b) (hb2 : b < 9223372036854775808) : T.val 1046 [I n, I b] = some (.d (.b (wth n b)), false) := by
 rw [val_k T (hV 1046 F1046 rfl) rfl]
 have w : IntKind.i64.wrap (-b) = -b := wrI (by omega) (by omega)
 simp [F1046, Fr.ofArgs, w, wth]
 repeat' (refine brn_split (fun h => ?_) (fun h => ?_) <;> (try simp at h) <;> (try simp [h, w]))
 all_goals omega
theorem val1038_2 (T : Tab) (hV : HV T) (n : Int) : T.val 1038 [.a [I 2, I n]] = some (.d (.b (wth n 1000000000000)), false) := by
 rw [val_k T (hV 1038 F1038 rfl) rfl]
 have e := val1046 T hV n 1000000000000 (by omega) (by omega)
 simp [F1038, Fr.ofArgs, e, dcells_a]
def V2 (p : Int × Int) : DV := .a [I p.1, I p.2]
abbrev MA : Int := 1000000000000
def vm (n : Int) : DV := V2 (2, n)
def st1030 (b : ABooks) (a : AAccount) (id day frm : Int) (l : List Int) : Nat → Unit → St
 | 0, _ => ⟨[(18, .d (I 0)), (17, .d (.l (K1 2) [] true)), (16, .r 0 K0 0 l.length true), (12, .d (I frm)), (10, .p 1 0 0), (4, .p 2 0 0), (2, .d (I day)), (1, .d (I id))], [some (.sl K0 0 (l.map I)), some (.box (K1 7) (.d a.dv)), some (.box (K1 22) (.d b.dv))]⟩
 | i + 1, _ => ⟨[(18, .d (I ((i : Int) + 1))), (17, .r 0 (K1 2) 0 (i + 1) false), (16, .r 1 K0 0 l.length true), (12, .d (I frm)), (10, .p 2 0 0), (4, .p 3 0 0), (2, .d (I day)), (1, .d (I id))], [some (.sl (K1 2) 0 ((l.take (i + 1)).map vm)), some (.sl K0 0 (l.map I)), some (.box (K1 7) (.d a.dv)), some (.box (K1 22) (.d b.dv))]⟩
theorem lp1030_0 (T : Tab) (hV : HV T) (b : ABooks) (a : AAccount) (id day frm : Int) (l : List Int) (hl : l.length < 1000) (h1 : 0 < l.length) {k : KC (PV × Bool)} {fr : Fr} {H : Heap} {r : Option (PV × Bool)}
  (hr : ∀ fr H, fr.get 8 = .d (.l (K1 2) [] true) → fr.get 9 = .d (I 6) → ghosts fr = [] → k .ret fr H = r)
  (h0 : gc [1, 2, 4, 10, 12, 16, 17, 18] 0 ⟨fr, H⟩ = st1030 b a id day frm l 0 ()) :
  kC T.env 0 fr H (.h (.loop [1, 2, 4, 10, 12, 16, 17, 18] L1030_0, k)) = brn (l.all fun n => wth n MA) (.h (k (.exit 0) [(70, .d (.b false)), (18, .d (I l.length)), (17, .r 0 (K1 2) 0 l.length false), (16, .r 1 K0 0 l.length true), (12, .d (I frm)), (10, .p 2 0 0), (4, .p 3 0 0), (2, .d (I day)), (1, .d (I id))] [some (.sl (K1 2) 0 (l.map vm)), some (.sl K0 0 (l.map I)), some (.box (K1 7) (.d a.dv)), some (.box (K1 22) (.d b.dv))], r)) := by
 rw [loop_rounds l (st1030 b a id day frm l) (fun _ _ => True) (fun i _ x c => if wth x MA = true then c () else r) (fun _ => k (.exit 0) [(70, .d (.b false)), (18, .d (I l.length)), (17, .r 0 (K1 2) 0 l.length false), (16, .r 1 K0 0 l.length true), (12, .d (I frm)), (10, .p 2 0 0), (4, .p 3 0 0), (2, .d (I day)), (1, .d (I id))] [some (.sl (K1 2) 0 (l.map vm)), some (.sl K0 0 (l.map I)), some (.box (K1 7) (.d a.dv)), some (.box (K1 22) (.d b.dv))]) ?_ ?_ h0 trivial]
 ·rw [rounds_all (fun n => wth n MA) r]
  ·cases l.all fun n => wth n MA <;> rfl
  ·exact fun _ _ _ _ => rfl
 ·intro B _ _ _
  obtain ⟨n, hn⟩ : ∃ n, l.length = n + 1 := ⟨l.length - 1, by omega⟩
  have ht : l.take (n + 1) = l := List.take_of_length_le (by omega)
  have hz : st1030 b a id day frm l l.length () = ⟨[(18, .d (I ((n : Int) + 1))), (17, .r 0 (K1 2) 0 (n + 1) false), (16, .r 1 K0 0 l.length true), (12, .d (I frm)), (10, .p 2 0 0), (4, .p 3 0 0), (2, .d (I day)), (1, .d (I id))], [some (.sl (K1 2) 0 (l.map vm)), some (.sl K0 0 (l.map I)), some (.box (K1 7) (.d a.dv)), some (.box (K1 22) (.d b.dv))]⟩ := by
   rw [hn]
   simp only [st1030, ht, hn]
  rw [hz]
  simp [L1030_0, hn]
 ·intro B _ i _ hi _ c hc
  have e := val1038_2 T hV l[i]
  have hv : ∀ x, DV.a [DV.i .i64 2, DV.i .i64 x] = vm x := fun _ => rfl
  cases i with
  | zero =>
   have w1 : IntKind.i64.wrap 1 = 1 := rfl
   have hc' := fun fr H => hc () fr H trivial
   clear hc
   have ht : l.take (0 + 1) = [l[0]] := by cases l with
    | nil => simp at hi
    | cons x r => rfl
   simp only [st1030, ht] at hc' ⊢
   simp [L1030_0, ↓bo_iaR, e, b_agg, agg_n, agg_c, cells_i, putAt, mkA, size_n, ↓subDw, hi]
   refine brn_split (fun h => ?_) (fun h => ?_)
   ·rw [if_pos h]
    simp [w1]
    refine hc' _ _ ?_
    simp [gc, Fr.keep, reach, frRefs, heapRefs, PV.refs, place, gcH, orefs, Obj.refs, PV.ren, Obj.ren, Heap.obj, Fr.ren, gh, List.idxOf?_cons, vm, V2]
   ·rw [if_neg (by rw [h]; decide)]
    simp
    exact hr _ _ (by simp [Fr.get]) (by simp [Fr.get]) (by simp [ghosts, gh])
  | succ i =>
   have w1 : IntKind.i64.wrap ((i : Int) + 1 + 1) = (i : Int) + 1 + 1 := wrI (by omega) (by omega)
   have hc' := fun fr H => hc () fr H trivial
   clear hc
   have ht : (l.take (i + 1 + 1)).map vm = (l.take (i + 1)).map vm ++ [vm l[i + 1]] := by
    rw [List.take_succ_eq_append_getElem hi, List.map_append]; rfl
   simp only [st1030, ht] at hc' ⊢
   have ho : ((l.take (i + 1)).map vm).length = i + 1 := by simp; omega
   generalize (l.take (i + 1)).map vm = out at *
   have g1 : (0 : Int) ≤ (i : Int) + 1 := by omega
   have g2 : ((i : Int) + 1).toNat = i + 1 := by omega
   have g3 : (i : Int) + 1 < l.length := by omega
   have g4 : out.take (i + 1) = out := List.take_of_length_le (by omega)
   have g5 : (i + 1 + 1) * 16 ≤ 140737488355328 := by omega
   simp [L1030_0, ↓bo_iaR, e, b_agg, agg_n, agg_c, cells_i, putAt, mkA, size_n, ↓subDw, hi, g1, g3]
   refine brn_split (fun h => ?_) (fun h => ?_)
   ·rw [if_pos h]
    simp [w1, g4, g5, ho]
    refine hc' _ _ ?_
    simp [gc, Fr.keep, reach, frRefs, heapRefs, PV.refs, place, gcH, orefs, Obj.refs, PV.ren, Obj.ren, Heap.obj, Fr.ren, gh, List.idxOf?_cons, vm, V2]
   ·rw [if_neg (by rw [h]; decide)]
    simp
    exact hr _ _ (by simp [Fr.get]) (by simp [Fr.get]) (by simp [ghosts, gh])
noncomputable def amts (b : ABooks) (a : AAccount) (id day amount : Int) : List Int := [ofR b.Journal.l id, lowL (dly b.Journal.l id (max (mst day) a.Opened) day), (turn b.Journal.l id (mst day) day).1, amount]
noncomputable def envQ (b : ABooks) (id day amount : Int) : List (Int × Int) × Int := match findA b id with
 | none => ([], 11)
 | some a => if (vday day && actA b id day) = true then (if ((amts b a id day amount).all fun n => wth n MA) = true then ((amts b a id day amount).map (fun n => (2, n)) ++ [(1, cntN b.Journal.l id (mst day) day), (1, w64 (day - a.Opened)), (4, day)], 0) else ([], 6)) else ([], 16)
attribute [local simp ↓ 2000] kD_app2
theorem val1030 (T : Tab) (hU : HU T) (hV : HV T) (b : ABooks) (id day amount : Int) (hb : b.ok) : T.val 1030 [b.dv, I id, I day, I amount] = some (.t [.d (.l (K1 2) ((envQ b id day amount).1.map V2) (envQ b id day amount).1.isEmpty), .d (I (envQ b id day amount).2)], false) := by
 rw [val_k T (hV 1030 F1030 rfl) rfl]
 have e := val683 T hU b id hb
 have e1 := val544 T hV day
 have e2 := val684 T hV hU b id day hb
 unfold envQ
 cases hf : findA b id with
 | none =>
  rw [hf] at e
  simp only [Option.getD_none, Option.isSome_none] at e
  simp [F1030, Fr.ofArgs, e, purs, pur, purC]
 | some a =>
  rw [hf] at e
  simp only [Option.getD_some, Option.isSome_some] at e
  obtain ⟨v, hv⟩ : ∃ v, vday day = v := ⟨_, rfl⟩
  obtain ⟨q, hq⟩ : ∃ q, actA b id day = q := ⟨_, rfl⟩
  rw [hv] at e1
  rw [hq] at e2
  simp only [hv, hq]
  cases v with
  | false => simp [F1030, Fr.ofArgs, e, e1, purs, pur, purC]
  | true =>
   cases q with
   | false => simp [F1030, Fr.ofArgs, e, e1, e2, purs, pur, purC]
   | true =>
    have hj := (hb.2.2.2.2.2.2.1)
    have ho : ∀ e ∈ b.Journal.l, e.Legs.l.length ≤ maxLen := fun e he => ((hj.2 e he).2.2.2.2.2.2.2.2.1).1
    have e3 := val1033' T hV day hv
    have e4 := val1035 T hV b.Journal.l b.Journal.t id (mst day) day hj.1 ho
    have e5 := val1037 T hU hV b.Journal.l b.Journal.t id (max (mst day) a.Opened) day hj.1 hj.2
    have e6 := val1036 T hV (dly b.Journal.l id (max (mst day) a.Opened) day) false (by have := dly_len b.Journal.l id (max (mst day) a.Opened) day; have : maxLen = 9223372036854775807 := rfl; omega)
    have e7 := val1027 T hU b.Journal.l b.Journal.t id hj.1 hj.2
    have e8 := val1039 T hV b.Journal.l b.Journal.t id (mst day) day hj.1 hj.2
    obtain ⟨am, ham⟩ : ∃ l, amts b a id day amount = l := ⟨_, rfl⟩
    obtain ⟨ok, hok⟩ : ∃ q, (am.all fun n => wth n MA) = q := ⟨_, rfl⟩
    have hl : am.length = 4 := by rw [← ham]; rfl
    have lp := fun k r fr H => @lp1030_0 T hV b a id day (mst day) am (by omega) (by omega) k fr H r
    simp only [hok] at lp
    simp only [ham, hok]
    simp [F1030, Fr.ofArgs, e, e1, e2, e3, e4, e5, e6, e7, ↓bo_mm2, b_bsl, bsl_n, bsl_c]
    refine (lp _ (some (.t [.d (.l (K1 2) [] true), .d (I 6)], false)) _ _ ?_ ?_).trans ?_
    ·intro fr H h8 h9 hg
     simp [h8, h9, hg, fin_ret, purs, pur, purC]
    ·simp [gc, Fr.keep, reach, frRefs, heapRefs, PV.refs, place, gcH, orefs, Obj.refs, PV.ren, Obj.ren, Heap.obj, Fr.ren, gh, List.idxOf?_cons, st1030, ← ham, amts]
    ·refine brn_split (fun h => ?_) (fun h => ?_)
     ·subst h
      have hl2 : (am.map vm).length = 4 := by simp [hl]
      have hvm : am.map vm = (am.map fun n => (2, n)).map V2 := by simp [vm, Function.comp_def]
      have ht : (am.map vm).take 4 = am.map vm := List.take_of_length_le (by omega)
      simp [hl, hl2, ht, e8, ↓kC_regD, ↓kDq_O, ↓aftD_go, nfp_go, ↓d_mov, ↓d_agg, ↓d_bsl, ↓d_load, ↓d_bin, ↓d_faddr, ↓d_call0, accD, writeS, touchS, footD, storeD, chg, roOf, runs, pairsD, disj, PV.refs, IOp.okD, Nat.testBit, allB, b_agg, agg_n, agg_c, cells_i, putAt, mkA, size_n, b_bsl, bsl_n, bsl_c, purs, pur, purC]
      rw [List.take_of_length_le (by simp [hl])]
      simp [V2, vm, w64, Function.comp_def]
     ·subst h
      simp
def v2b (p q : Int × Int) : Bool := (p.1 == q.1) && (p.2 == q.2)
theorem lp1092_0 (T : Tab) (z : List ((Int × Int) × (Int × Int))) (s t : Bool) (hn : z.length ≤ maxLen) {k : KC (PV × Bool)} {r : Option (PV × Bool)} {fr : Fr} {H : Heap} (hr : RetF 4 k r) (h0 : gc [0, 1, 5] 0 ⟨fr, H⟩ = ⟨[(5, .d (I 0)), (1, .d (.l (K1 2) ((z.map Prod.snd).map V2) t)), (0, .d (.l (K1 2) ((z.map Prod.fst).map V2) s))], []⟩) :
  kC T.env 0 fr H (.h (.loop [0, 1, 5] L1092_0, k)) = brn (z.all fun p => v2b p.1 p.2) (.h (k (.exit 0) [(14, .d (.b false)), (5, .d (I z.length)), (1, .d (.l (K1 2) ((z.map Prod.snd).map V2) t)), (0, .d (.l (K1 2) ((z.map Prod.fst).map V2) s))] [], r)) := by
 have hm : maxLen = 9223372036854775807 := rfl
 rw [loop_rounds z (fun i _ => ⟨[(5, .d (I i)), (1, .d (.l (K1 2) ((z.map Prod.snd).map V2) t)), (0, .d (.l (K1 2) ((z.map Prod.fst).map V2) s))], []⟩) (fun _ _ => True) (fun i _ x c => if v2b x.1 x.2 = true then c () else r) (fun _ => k (.exit 0) [(14, .d (.b false)), (5, .d (I z.length)), (1, .d (.l (K1 2) ((z.map Prod.snd).map V2) t)), (0, .d (.l (K1 2) ((z.map Prod.fst).map V2) s))] []) ?_ ?_ h0 trivial]
 ·rw [rounds_all (fun p : (Int × Int) × (Int × Int) => v2b p.1 p.2) r]
  ·cases z.all fun p => v2b p.1 p.2 <;> rfl
  ·exact fun _ _ _ _ => rfl
 ·intro B _ _ _
  simp [L1092_0]
 ·intro B _ i _ hi _ c hc
  have h1 : (i : Int) < z.length := by omega
  have h3 : IntKind.i64.wrap ((i : Int) + 1) = (i : Int) + 1 := wrI (by omega) (by omega)
  have he : eqA [1, 1] (.d (V2 z[i].1)) (.d (V2 z[i].2)) = some (v2b z[i].1 z[i].2) := by
   obtain ⟨⟨p1, p2⟩, ⟨q1, q2⟩⟩ := z[i]
   simp [eqA, V2, v2b, eqK, eqL]
  simp [L1092_0, h1, hi, he]
  repeat' (refine brn_split (fun h => ?_) (fun h => ?_) <;> (try simp at h) <;> (try simp [h, h3]))
  all_goals first
   | exact hr _ _ (by simp [Fr.get]) (by simp [ghosts, gh])
   | exact hc () _ _ trivial (by simp [gc, Fr.keep, reach, frRefs, heapRefs, PV.refs, gcH, PV.ren, Obj.ren, Heap.obj, Fr.ren, gh])
theorem val1092 (T : Tab) (hV : HV T) (x : List (Int × Int)) (s t : Bool) (hn : x.length ≤ maxLen) : T.val 1092 [.l (K1 2) (x.map V2) s, .l (K1 2) (x.map V2) t] = some (.d (.b true), false) := by
 rw [val_k T (hV 1092 F1092 rfl) rfl]
 have lp := fun k r fr H => @lp1092_0 T (x.map fun p => (p, p)) s t (by simpa using hn) k r fr H
 have h1 : (x.map fun p => (p, p)).map Prod.fst = x := by simp [Function.comp_def]
 have h2 : (x.map fun p => (p, p)).map Prod.snd = x := by simp [Function.comp_def]
 have h3 : ((x.map fun p => (p, p)).all fun p => v2b p.1 p.2) = true := by simp [v2b]
 rw [h1, h2, h3] at lp
 simp [F1092, Fr.ofArgs, bne]
 refine (lp _ (some (.d (.b false), false)) _ _ (by simp [RetF_bl, RetF_sq, RetF_fin]) (by simp [gc, Fr.keep, reach, frRefs, heapRefs, PV.refs, gcH, PV.ren, Obj.ren, Heap.obj, Fr.ren, gh])).trans ?_
 simp
theorem lp801_1 (T : Tab) (a : AAccount) (day amount _frm now low vol cnt : Int) (l : List Int) (hn : l.length ≤ maxLen) {k : KC (PV × Bool)} {r : Option (PV × Bool)} {fr : Fr} {H : Heap}
  (hr : ∀ fr H, fr.get 8 = .d (.l (K1 2) [] true) → fr.get 9 = .d (I 6) → ghosts fr = [] → k .ret fr H = r)
  (h0 : gc [2, 3, 10, 13, 14, 16, 18, 103, 104, 105] 0 ⟨fr, H⟩ = ⟨[(105, .d (I 0)), (104, .d (I l.length)), (103, .r 0 K0 0 l.length true), (18, .d (I cnt)), (16, .d (I vol)), (14, .d (I low)), (13, .d (I now)), (10, .p 1 0 0), (3, .d (I amount)), (2, .d (I day))], [some (.sl K0 0 (l.map I)), some (.box (K1 7) (.d a.dv))]⟩) :
  kC T.env 0 fr H (.h (.loop [2, 3, 10, 13, 14, 16, 18, 103, 104, 105] L801_1, k)) = brn (l.all fun n => wth n MA) (.h (k (.exit 3) [(106, .d (.b false)), (105, .d (I l.length)), (104, .d (I l.length)), (103, .r 0 K0 0 l.length true), (18, .d (I cnt)), (16, .d (I vol)), (14, .d (I low)), (13, .d (I now)), (10, .p 1 0 0), (3, .d (I amount)), (2, .d (I day))] [some (.sl K0 0 (l.map I)), some (.box (K1 7) (.d a.dv))], r)) := by
 have hm : maxLen = 9223372036854775807 := rfl
 rw [loop_rounds l (fun i _ => ⟨[(105, .d (I i)), (104, .d (I l.length)), (103, .r 0 K0 0 l.length true), (18, .d (I cnt)), (16, .d (I vol)), (14, .d (I low)), (13, .d (I now)), (10, .p 1 0 0), (3, .d (I amount)), (2, .d (I day))], [some (.sl K0 0 (l.map I)), some (.box (K1 7) (.d a.dv))]⟩) (fun _ _ => True) (fun i _ x c => if wth x MA = true then c () else r) (fun _ => k (.exit 3) [(106, .d (.b false)), (105, .d (I l.length)), (104, .d (I l.length)), (103, .r 0 K0 0 l.length true), (18, .d (I cnt)), (16, .d (I vol)), (14, .d (I low)), (13, .d (I now)), (10, .p 1 0 0), (3, .d (I amount)), (2, .d (I day))] [some (.sl K0 0 (l.map I)), some (.box (K1 7) (.d a.dv))]) ?_ ?_ h0 trivial]
 ·rw [rounds_all (fun n => wth n MA) r]
  ·cases l.all fun n => wth n MA <;> rfl
  ·exact fun _ _ _ _ => rfl
 ·intro B _ _ _
  simp [L801_1]
 ·intro B _ i _ hi _ c hc
  have h1 : (i : Int) < l.length := by omega
  have h3 : IntKind.i64.wrap ((i : Int) + 1) = (i : Int) + 1 := wrI (by omega) (by omega)
  have hw : wth l[i] MA = (decide (-1000000000000 ≤ l[i]) && decide (l[i] ≤ 1000000000000)) := rfl
  rw [hw]
  simp [L801_1, h1, hi, ↓bo_iaR, ↓subDw]
  repeat' (refine brn_split (fun h => ?_) (fun h => ?_) <;> (try simp at h) <;> (try simp [h, h3]))
  all_goals first
   | (rw [if_neg (by simp; omega)]; exact hr _ _ (by simp [Fr.get]) (by simp [Fr.get]) (by simp [ghosts, gh]))
   | (rw [if_pos (by simp; omega)]; exact hc () _ _ trivial (by simp [gc, Fr.keep, reach, frRefs, heapRefs, PV.refs, PV.refsL, place, gcH, orefs, Obj.refs, PV.ren, PV.renL, Obj.ren, Heap.obj, Fr.ren, gh, List.idxOf?_cons]))
   | exact hr _ _ (by simp [Fr.get]) (by simp [Fr.get]) (by simp [ghosts, gh])
   | exact hc () _ _ trivial (by simp [gc, Fr.keep, reach, frRefs, heapRefs, PV.refs, place, gcH, orefs, Obj.refs, PV.ren, Obj.ren, Heap.obj, Fr.ren, gh, List.idxOf?_cons])
theorem val801 (T : Tab) (hU : HU T) (hV : HV T) (b : ABooks) (id day amount : Int) (hb : b.ok) : T.val 801 [b.dv, I id, I day, I amount] = some (.t [.d (.l (K1 2) ((envQ b id day amount).1.map V2) (envQ b id day amount).1.isEmpty), .d (I (envQ b id day amount).2)], false) := by
 rw [val_k T (hV 801 F801 rfl) rfl]
 have e := val12 T hU b id hb
 have e1 := val22 T hV day
 have e2 := val39 T hV hU b id day hb
 unfold envQ
 cases hf : findA b id with
 | none =>
  rw [hf] at e
  simp only [Option.getD_none, Option.isSome_none] at e
  simp [F801, Fr.ofArgs, e, purs, pur, purC]
 | some a =>
  rw [hf] at e
  simp only [Option.getD_some, Option.isSome_some] at e
  obtain ⟨v, hv⟩ : ∃ v, vday day = v := ⟨_, rfl⟩
  obtain ⟨q, hq⟩ : ∃ q, actA b id day = q := ⟨_, rfl⟩
  rw [hv] at e1
  rw [hq] at e2
  simp only [hv, hq]
  cases v with
  | false => simp [F801, Fr.ofArgs, e, e1, purs, pur, purC]
  | true =>
   cases q with
   | false => simp [F801, Fr.ofArgs, e, e1, e2, purs, pur, purC]
   | true =>
    have hj := (hb.2.2.2.2.2.2.1)
    have ho : ∀ e ∈ b.Journal.l, e.Legs.l.length ≤ maxLen := fun e he => ((hj.2 e he).2.2.2.2.2.2.2.2.1).1
    have e3 := val879' T hV day hv
    have e4 := val882' T hU hV b.Journal.l b.Journal.t id (mst day) day hj.1 ho
    have e5 := val880' T hU hV b.Journal.l b.Journal.t id (max (mst day) a.Opened) day hj.1 ho
    have e6 : ∀ x r, dly b.Journal.l id (max (mst day) a.Opened) day = x :: r → T.val 881 [.l K0 ((x :: r).map I) false] = some (.d (I (lowL (x :: r))), false) := fun x r h => val881 T hV x r false (by have := dly_len b.Journal.l id (max (mst day) a.Opened) day; rw [h] at this; simp at this; have : maxLen = 9223372036854775807 := rfl; omega)
    have e7 := val715 T hU b.Journal.l b.Journal.t id hj.1 ho
    rw [ofP_eq] at e7
    have c1 := fun n => val884 T hV n
    have c2 := fun n => val885 T hV n
    have lp0 := fun now low vol k fr H => @lp801_0 T hV a b.Journal.l b.Journal.t id (mst day) day amount now low vol hj.1 hj.2 k fr H
    obtain ⟨am, ham⟩ : ∃ l, amts b a id day amount = l := ⟨_, rfl⟩
    obtain ⟨ok, hok⟩ : ∃ q, (am.all fun n => wth n MA) = q := ⟨_, rfl⟩
    have hl : am.length = 4 := by rw [← ham]; rfl
    have lp := fun now low vol cnt k r fr H => @lp801_1 T a day amount (mst day) now low vol cnt am (by rw [hl]; decide) k r fr H
    simp only [hok] at lp
    simp only [ham, hok]
    cases hd : dly b.Journal.l id (max (mst day) a.Opened) day with
    | nil =>
     rw [hd] at e5
     simp only [List.map_nil] at e5
     simp [F801, Fr.ofArgs, e, e1, e2, e3, e4, e5, e7, ↓bo_mm2]
     refine (lp0 (ofR b.Journal.l id) 0 (turn b.Journal.l id (mst day) day).1 _ _ _ (by simp [gc, Fr.keep, reach, frRefs, heapRefs, PV.refs, place, gcH, orefs, Obj.refs, PV.ren, Obj.ren, Heap.obj, Fr.ren, gh, List.idxOf?_cons])).trans ?_
     simp [b_bsl, bsl_n, bsl_c]
     refine (lp (ofR b.Journal.l id) 0 (turn b.Journal.l id (mst day) day).1 (cntN b.Journal.l id (mst day) day) _ (some (.t [.d (.l (K1 2) [] true), .d (I 6)], false)) _ _ ?_ ?_).trans ?_
     ·intro fr H h8 h9 hg
      simp [h8, h9, hg, fin_ret, purs, pur, purC]
     ·simp [gc, Fr.keep, reach, frRefs, heapRefs, PV.refs, place, gcH, orefs, Obj.refs, PV.ren, Obj.ren, Heap.obj, Fr.ren, gh, List.idxOf?_cons, ← ham, amts, hd, lowL, cntN]
     ·refine brn_split (fun h => ?_) (fun h => ?_)
      ·subst h
       simp [↓kC_regD, ↓kDq_nil, ↓kDq_O, ↓aftD_go, nfp_go, ↓d_mov, ↓d_agg, ↓d_bsl, ↓d_load, ↓d_bin, ↓d_faddr, accD, writeS, touchS, footD, storeD, chg, roOf, runs, pairsD, disj, PV.refs, IOp.okD, Nat.testBit, ↓d_callv, ↓clvD_f, plains, c1, c2, b_agg, agg_n, agg_c, cells_i, putAt, mkA, size_n, b_bsl, bsl_n, bsl_c, purs, pur, purC]
       simp [← ham, amts, hd, lowL, V2, w64, cntN]
      ·subst h
       simp
    | cons x r =>
     have e6' := e6 x r hd
     rw [hd] at e5
     simp only [List.map_cons] at e5 e6'
     have hpos : (0 : Int) < (r.length : Int) + 1 := by omega
     simp [F801, Fr.ofArgs, e, e1, e2, e3, e4, e5, e6', e7, ↓bo_mm2, hpos]
     refine (lp0 (ofR b.Journal.l id) (lowL (x :: r)) (turn b.Journal.l id (mst day) day).1 _ _ _ (by simp [gc, Fr.keep, reach, frRefs, heapRefs, PV.refs, place, gcH, orefs, Obj.refs, PV.ren, Obj.ren, Heap.obj, Fr.ren, gh, List.idxOf?_cons])).trans ?_
     simp [b_bsl, bsl_n, bsl_c]
     refine (lp (ofR b.Journal.l id) (lowL (x :: r)) (turn b.Journal.l id (mst day) day).1 (cntN b.Journal.l id (mst day) day) _ (some (.t [.d (.l (K1 2) [] true), .d (I 6)], false)) _ _ ?_ ?_).trans ?_
     ·intro fr H h8 h9 hg
      simp [h8, h9, hg, fin_ret, purs, pur, purC]
     ·simp [gc, Fr.keep, reach, frRefs, heapRefs, PV.refs, place, gcH, orefs, Obj.refs, PV.ren, Obj.ren, Heap.obj, Fr.ren, gh, List.idxOf?_cons, ← ham, amts, hd, lowL, cntN]
     ·refine brn_split (fun h => ?_) (fun h => ?_)
      ·subst h
       simp [↓kC_regD, ↓kDq_nil, ↓kDq_O, ↓aftD_go, nfp_go, ↓d_mov, ↓d_agg, ↓d_bsl, ↓d_load, ↓d_bin, ↓d_faddr, accD, writeS, touchS, footD, storeD, chg, roOf, runs, pairsD, disj, PV.refs, IOp.okD, Nat.testBit, ↓d_callv, ↓clvD_f, plains, c1, c2, b_agg, agg_n, agg_c, cells_i, putAt, mkA, size_n, b_bsl, bsl_n, bsl_c, purs, pur, purC]
       simp [← ham, amts, hd, lowL, V2, w64, cntN]
      ·subst h
       simp
end Go.Sim
end
section
namespace Go.Sim
set_option maxRecDepth 10000
set_option maxHeartbeats 4000000
theorem envQ_len (b : ABooks) (id day amount : Int) : (envQ b id day amount).1.length ≤ 7 := by
 unfold envQ
 split
 ·simp
 ·split
  ·split <;> simp [amts]
  ·simp
theorem law1084 (T : Tab) (hT : HU T) (hV : HV T) (hl : T.val 1091 [] = some (.d (.b true), false)) (b : ABooks) (hb : b.ok) (i d a : Int) : T.val 1084 [b.dv, .a [I i, I d, I a]] = some (.d (.b true), false) := by
 rw [val_k T (hV 1084 F1084 rfl) rfl]
 have e0 := val1090 T hT b hb
 by_cases hg : great b = true
 ·rw [hg] at e0
  simp [F1084, Fr.ofArgs, e0, hl]
 ·have hg' : great b = false := by simpa using hg
  rw [hg'] at e0
  have e1 := val801 T hT hV b i d a hb
  have e2 := val1030 T hT hV b i d a hb
  have e3 := fun s t => val1092 T hV (envQ b i d a).1 s t (by have := envQ_len b i d a; have : maxLen = 9223372036854775807 := rfl; omega)
  generalize envQ b i d a = q at e1 e2 e3 ⊢
  simp [F1084, Fr.ofArgs, e0, hl, e1, e2, e3, dcells_a]
end Go.Sim
end
end
