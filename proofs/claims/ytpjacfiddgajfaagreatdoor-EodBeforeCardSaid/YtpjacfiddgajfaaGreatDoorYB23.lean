/- Part 23 of the proof: CbC51M, CbC52Y, CbV52Y, CbYa, CbGi, CbH1, CbKj, CbO1, CbKk, CbO0, CbBq, CbE1, CbE2, CbE3, CbE4, CbTc, CbE7, CbV51M, CbO2, CbO3, CbYb, CbYc, CbKn, CbYd, CbT1, CbT2, CbT3, CbE6b, CbEd, CbEd3, CbE5d, CbEd4, CbE6c, CbEe1, CbEe2, CbE6a, CbE8, CbE9c, CbE9a, CbE9b, CbEa1, CbEb2, CbEd1, CbE5c, CbEd2, CbEe3, CbYe. -/
import Derived.Test.YtpjacfiddgajfaaGreatDoorYB7
import Derived.Test.YtpjacfiddgajfaaGreatDoorYB8
import Derived.Test.YtpjacfiddgajfaaGreatDoorYB9
import Derived.Test.YtpjacfiddgajfaaGreatDoorYB6
import Derived.Test.YtpjacfiddgajfaaGreatDoorYB21
import Derived.Test.YtpjacfiddgajfaaGreatDoorYB22
import Derived.Test.YtpjacfiddgajfaaGreatDoorYB20
import Derived.Test.YtpjacfiddgajfaaGreatDoorYB2
import Derived.KernelRfl
section

end
section

end
section
namespace Go.Sim
def tabY : PT :=
 (.bin 561 F561 (.bin 517 F517 (.bin 291 F291 (.bin 207 F207 .nil .nil) .nil) (.bin 560 F560 (.bin 528 F528 .nil .nil) .nil)) (.bin 1120 F1120 (.bin 1119 F1119 (.bin 1011 F1011 .nil .nil) .nil) (.bin 1121 F1121 .nil .nil)))
abbrev HY (T : Tab) : Prop := ∀ n F, tabY.get n = some F → T.F n = some F
end Go.Sim
end
section
open Go.Sim
attribute [local simp ↓] kC_skip kC_ret kC_exit kC_seq kC_block kC_reg kC_cond kC_condc sqK blK lpK kO_nil kO_O kO_E kO_OG kO_EG grd_b grd_t tst_b brn_true brn_false brn_not chk_T b_mov b_pick b_alloc b_box b_load b_store b_bin b_un b_eqv b_faddr b_field b_iaddr b_sl b_len b_app b_call b_call1 b_callR b_ext bo_some bo_none bo2_some bo2_none bo_iaddr bo_addS bo_quo bo_rem bo_bnd bo_bnd0 ld_q0 ld_qw ld_p subP0 subPw bo_moveP bo_moveQ bo_lenl bo_lens bo_lenr bo_add bo_sub bo_mul bo_eql bo_neq bo_lss bo_leq bo_gtr bo_geq bo_neg bo_not bo_eqS bo_neS grd_nb b_slS slSK_s extK_t ownL_l fin_ret fin_norm bo_res0 bo_rest bo_resc st_p stK_box b_callv callvK_f0 callvK_f1 mkf_b subPs ld_qs kC_regS0 kC_regS1 kC_regS2 kC_regS3 kC_regS4 kC_regS5 b_eqb eqbK_b b_agg0 b_bsl0 b_bsl1 app_l app_r appE_n appE_r bo_lenR b_mkif mkifK_d b_tas tasK_i b_mm2 bo_mm2
attribute [local simp] K_refl obj_0 obj_s get_c get_n drop_c drop_n set_c set_n fix_c fix_n rd IOp.adds nadds gh nid rgK rdS ghosts_c ghosts_n packed1 packed2 purT_b purT_i purT_s purT_a purT_lt purT_lf K_ss K_ns K_sn plains_n plains_c env_val env_ref purs_n purs_d put_0 put_s fits_i fits_b fits_s fits_l lt0_nat fits_a purT_t pur_dv frz_n purT_r purT_f
section
namespace Go.Sim
set_option maxRecDepth 10000
set_option maxHeartbeats 4000000
open Go.Lib (decDigits itoa)
theorem ddS {u : Nat} (h : u < 10) : decDigits u = [UInt8.ofNat (48 + u)] := by rw [decDigits, dif_pos h]
theorem ddB {u : Nat} (h : ¬ u < 10) : decDigits u = decDigits (u / 10) ++ [UInt8.ofNat (48 + u % 10)] := by
 rw [decDigits, dif_neg h]
theorem ddL : ∀ (n u : Nat), u < 10 ^ n → (decDigits u).length ≤ n + 1
 | 0, u, h => by rw [ddS (by simp at h; omega)]; simp
 | n + 1, u, h => by
  by_cases hu : u < 10
  ·rw [ddS hu]; simp
  ·rw [ddB hu, List.length_append]
   have := ddL n (u / 10) (by rw [Nat.pow_succ] at h; omega)
   simp; omega
theorem itoa_nat (u : Nat) : itoa (u : Int) = decDigits u := by rw [itoa, if_neg (by omega)]; simp
theorem itoa_neg (u : Nat) (h : 0 < u) : itoa (-(u : Int)) = 45 :: decDigits u := by rw [itoa, if_pos (by omega)]; simp
theorem dig517 (T : Tab) (hY : HY T) (u : Nat) (hu : u < 10) : T.val 517 [I (u : Int)] = some (.d (.s (decDigits u)), false) := by
 rw [val_k T (hY 517 F517 rfl) rfl, ddS hu]
 have hu9 : u = 0 ∨ u = 1 ∨ u = 2 ∨ u = 3 ∨ u = 4 ∨ u = 5 ∨ u = 6 ∨ u = 7 ∨ u = 8 ∨ u = 9 := by omega
 have w : ∀ n : Int, 0 ≤ n → n ≤ 100 → IntKind.i64.wrap n = n := fun n h h' => wrI (by omega) (by omega)
 rcases hu9 with rfl | rfl | rfl | rfl | rfl | rfl | rfl | rfl | rfl | rfl <;> simp [F517, Fr.ofArgs, w]
theorem num517 (T : Tab) (hY : HY T) : ∀ (m : Nat) (n : Int), n.natAbs ≤ m → -9223372036854775808 ≤ n → n ≤ 9223372036854775807 → T.val 517 [I n] = some (.d (.s (itoa n)), false)
 | m, n, hm, a1, a2 => by
  by_cases h0 : n < 0
  ·obtain ⟨u, rfl⟩ : ∃ u : Nat, n = -(u : Int) := ⟨n.natAbs, by omega⟩
   have hu : 0 < u := by omega
   rw [val_k T (hY 517 F517 rfl) rfl, itoa_neg u hu]
   by_cases h1 : -10 < -(u : Int)
   ·have hw : IntKind.i64.wrap (u : Int) = u := wrI (by omega) (by omega)
    have hv := dig517 T hY u (by omega)
    have l1 := ddL 20 u (by omega)
    have g1 : (u : Int) < 10 := by omega
    have g2 : u < 10 := by omega
    have g3 : 1 + (decDigits u).length < 4611686018427387904 := by omega
    simp [F517, Fr.ofArgs, hu, h1, hw, hv, g3]
   ·have h2 : ¬ u < 10 := by omega
    have q1 : (-(u : Int)).tdiv 10 = -((u / 10 : Nat) : Int) := by rw [Int.neg_tdiv]; rfl
    have q2 : (-(u : Int)).tmod 10 = -((u % 10 : Nat) : Int) := by rw [Int.neg_tmod]; rfl
    have w1 : IntKind.i64.wrap (-((u / 10 : Nat) : Int)) = -((u / 10 : Nat) : Int) := wrI (by omega) (by omega)
    have w0 : IntKind.i64.wrap (-((u % 10 : Nat) : Int)) = -((u % 10 : Nat) : Int) := wrI (by omega) (by omega)
    have w2 : IntKind.i64.wrap ((u % 10 : Nat) : Int) = ((u % 10 : Nat) : Int) := wrI (by omega) (by omega)
    have v1 := num517 T hY (m - 1) (-((u / 10 : Nat) : Int)) (by omega) (by omega) (by omega)
    have v2 := num517 T hY (m - 1) ((u % 10 : Nat) : Int) (by omega) (by omega) (by omega)
    rw [itoa_neg _ (by omega)] at v1
    rw [itoa_nat] at v2
    have l1 := ddL 20 (u / 10) (by omega)
    have l2 := ddL 20 (u % 10) (by omega)
    have g1 : ¬ (u : Int) < 10 := by omega
    have hd : decDigits u = decDigits (u / 10) ++ decDigits (u % 10) := by rw [ddB h2, ddS (Nat.mod_lt u (by omega))]
    obtain ⟨a, ha⟩ : ∃ a, decDigits (u / 10) = a := ⟨_, rfl⟩
    obtain ⟨b, hb⟩ : ∃ a, decDigits (u % 10) = a := ⟨_, rfl⟩
    rw [hd]
    simp only [ha, hb] at v1 v2 l1 l2 ⊢
    obtain ⟨y, hy⟩ : ∃ y : Int, -((u / 10 : Nat) : Int) = y := ⟨_, rfl⟩
    obtain ⟨z, hz⟩ : ∃ z : Int, ((u % 10 : Nat) : Int) = z := ⟨_, rfl⟩
    simp only [hy, hz] at q1 q2 w1 w0 w2 v1 v2
    have g3 : a.length + 1 + b.length < 4611686018427387904 := by omega
    simp [F517, Fr.ofArgs, hu, h1, q1, q2, w1, w2, v1, v2, g3]
  ·obtain ⟨u, rfl⟩ : ∃ u : Nat, n = (u : Int) := ⟨n.toNat, by omega⟩
   rw [itoa_nat]
   by_cases h2 : u < 10
   ·exact dig517 T hY u h2
   ·rw [val_k T (hY 517 F517 rfl) rfl]
    have q1 : (u : Int).tdiv 10 = ((u / 10 : Nat) : Int) := rfl
    have q2 : (u : Int).tmod 10 = ((u % 10 : Nat) : Int) := rfl
    have w1 : IntKind.i64.wrap ((u / 10 : Nat) : Int) = ((u / 10 : Nat) : Int) := wrI (by omega) (by omega)
    have w2 : IntKind.i64.wrap ((u % 10 : Nat) : Int) = ((u % 10 : Nat) : Int) := wrI (by omega) (by omega)
    have v1 := num517 T hY (m - 1) ((u / 10 : Nat) : Int) (by omega) (by omega) (by omega)
    have v2 := num517 T hY (m - 1) ((u % 10 : Nat) : Int) (by omega) (by omega) (by omega)
    rw [itoa_nat] at v1 v2
    have l1 := ddL 20 (u / 10) (by omega)
    have l2 := ddL 20 (u % 10) (by omega)
    have g0 : ¬ (u : Int) < 0 := by omega
    have g1 : ¬ (u : Int) < 10 := by omega
    have hd : decDigits u = decDigits (u / 10) ++ decDigits (u % 10) := by rw [ddB h2, ddS (Nat.mod_lt u (by omega))]
    obtain ⟨a, ha⟩ : ∃ a, decDigits (u / 10) = a := ⟨_, rfl⟩
    obtain ⟨b, hb⟩ : ∃ a, decDigits (u % 10) = a := ⟨_, rfl⟩
    rw [hd]
    simp only [ha, hb] at v1 v2 l1 l2 ⊢
    obtain ⟨y, hy⟩ : ∃ y : Int, ((u / 10 : Nat) : Int) = y := ⟨_, rfl⟩
    obtain ⟨z, hz⟩ : ∃ z : Int, ((u % 10 : Nat) : Int) = z := ⟨_, rfl⟩
    simp only [hy, hz] at q1 q2 w1 w2 v1 v2
    have g3 : a.length + b.length < 4611686018427387904 := by omega
    simp [F517, Fr.ofArgs, g0, g1, q1, q2, w1, v1, v2, g3]
 termination_by m _ _hm => m
 decreasing_by all_goals omega
theorem itoa_len {n : Int} (h1 : -9223372036854775808 ≤ n) (h2 : n ≤ 9223372036854775807) : (itoa n).length ≤ 100 := by
 have key : ∀ u : Nat, u < 10 ^ 20 → (decDigits u).length ≤ 21 := fun u h => ddL 20 u h
 rw [itoa]
 split
 ·have := key n.natAbs (by omega); simp; omega
 ·have := key n.toNat (by omega); omega
abbrev HItY (T : Tab) : Prop := ∀ ds, T.val 109 ds = itoaX ds
theorem inK_r {n : Int} (h : inK .i64 n) : -9223372036854775808 ≤ n ∧ n ≤ 9223372036854775807 := by
 unfold inK at h
 simp [Lit.wf] at h
 simp [IntKind.min, IntKind.signed, IntKind.bits] at h
 omega
theorem n517 (T : Tab) (hY : HY T) {n : Int} (h : inK .i64 n) : T.val 517 [I n] = some (.d (.s (itoa n)), false) := num517 T hY n.natAbs n (Nat.le_refl _) (inK_r h).1 (inK_r h).2
theorem n109 (T : Tab) (hI : HItY T) {n : Int} (h : inK .i64 n) : T.val 109 [I n] = some (.d (.s (itoa n)), false) := by
 rw [hI, ← itoaB_eq (inK_r h).1 (inK_r h).2]
 have := inK_r h
 simp [itoaX, this.1, this.2]
def preY (day : Int) (t : ATask) : List UInt8 := [101, 111, 100, 47] ++ itoa day ++ [47] ++ itoa t.Stage ++ [47] ++ itoa t.Shard ++ [47]
theorem val561 (T : Tab) (hY : HY T) (hI : HItY T) (day : Int) (t : ATask) (hd : inK .i64 day) (ht : t.ok) : T.val 561 [I day, t.dv] = some (.d (.s (preY day t)), false) := by
 have l1 := itoa_len (inK_r hd).1 (inK_r hd).2
 have l2 := itoa_len (inK_r ht.1).1 (inK_r ht.1).2
 have l3 := itoa_len (inK_r ht.2).1 (inK_r ht.2).2
 have e1 := n109 T hI hd
 have e2 := n109 T hI ht.1
 have e3 := n109 T hI ht.2
 rw [val_k T (hY 561 F561 rfl) rfl]
 unfold preY
 generalize itoa day = a at *
 generalize itoa t.Stage = b at *
 generalize itoa t.Shard = c at *
 simp [F561, Fr.ofArgs, e1]
 repeat' (refine chk_go (by first | omega | (simp; omega)) ?_; simp [e2, e3])
theorem val1011 (T : Tab) (hY : HY T) (day : Int) (t : ATask) (hd : inK .i64 day) (ht : t.ok) : T.val 1011 [I day, t.dv] = some (.d (.s (preY day t)), false) := by
 have l1 := itoa_len (inK_r hd).1 (inK_r hd).2
 have l2 := itoa_len (inK_r ht.1).1 (inK_r ht.1).2
 have l3 := itoa_len (inK_r ht.2).1 (inK_r ht.2).2
 have e1 := n517 T hY hd
 have e2 := n517 T hY ht.1
 have e3 := n517 T hY ht.2
 rw [val_k T (hY 1011 F1011 rfl) rfl]
 unfold preY
 generalize itoa day = a at *
 generalize itoa t.Stage = b at *
 generalize itoa t.Shard = c at *
 simp [F1011, Fr.ofArgs, e1]
 repeat' (refine chk_go (by first | omega | (simp; omega)) ?_; simp [e2, e3])
end Go.Sim
end
end
section
namespace Go.Sim
end Go.Sim
end
section
open Go.Sim
attribute [local simp ↓] kC_skip kC_ret kC_exit kC_seq kC_block kC_reg kC_cond kC_condc sqK blK lpK kO_nil kO_O kO_E kO_OG kO_EG grd_b grd_t tst_b brn_true brn_false brn_not chk_T b_mov b_pick b_alloc b_box b_load b_store b_bin b_un b_eqv b_faddr b_field b_iaddr b_sl b_len b_app b_call b_call1 b_callR b_ext bo_some bo_none bo2_some bo2_none bo_iaddr bo_addS bo_quo bo_rem bo_bnd bo_bnd0 ld_q0 ld_qw ld_p subP0 subPw bo_moveP bo_moveQ bo_lenl bo_lens bo_lenr bo_add bo_sub bo_mul bo_eql bo_neq bo_lss bo_leq bo_gtr bo_geq bo_neg bo_not bo_eqS bo_neS grd_nb b_slS slSK_s extK_t ownL_l fin_ret fin_norm bo_res0 bo_rest bo_resc st_p stK_box b_callv callvK_f0 callvK_f1 mkf_b subPs ld_qs kC_regS0 kC_regS1 kC_regS2 kC_regS3 kC_regS4 kC_regS5 b_eqb eqbK_b
attribute [local simp] K_refl obj_0 obj_s get_c get_n drop_c drop_n set_c set_n fix_c fix_n rd IOp.adds nadds gh nid rgK rdS ghosts_c ghosts_n packed1 packed2 purT_b purT_i purT_s purT_a purT_lt purT_lf K_ss K_ns K_sn plains_n plains_c env_val env_ref purs_n purs_d put_0 put_s
section
namespace Go.Sim
set_option maxRecDepth 10000
set_option maxHeartbeats 2000000
theorem rounds_find {α R : Type} (p : α → Bool) (r : Nat → Option R) (done : Unit → Option R) (step : Nat → Unit → α → (Unit → Option R) → Option R) (hs : ∀ i b x c, step i b x c = if p x = true then r i else c ()) : ∀ (i : Nat) (ls : List α), rounds step done i () ls = match ls.findIdx? p with | some j => r (i + j) | none => done ()
 | i, [] => by simp [rounds]
 | i, x :: l => by
  rw [rounds, hs, rounds_find p r done step hs (i + 1) l, List.findIdx?_cons]
  cases h : p x with
  | true => simp
  | false =>
   simp only [Bool.false_eq_true, if_false]
   cases l.findIdx? p with
   | none => simp
   | some j => simp; congr 1; omega
section
variable {α : Type}
end
end Go.Sim
end
end
section
namespace Go.Sim
theorem fits_r (o off len : Nat) (k : K) (t : Bool) : fits none (.r o k off len t) = true := rfl
section
variable {R : Type} {H : Heap}
end
end Go.Sim
end
section
open Go.Sim
attribute [local simp ↓] kC_skip kC_ret kC_exit kC_seq kC_block kC_reg kC_cond kC_condc sqK blK lpK kO_nil kO_O kO_E kO_OG kO_EG grd_b grd_t tst_b brn_true brn_false brn_not chk_T b_mov b_pick b_alloc b_box b_load b_store b_bin b_un b_eqv b_faddr b_field b_iaddr b_sl b_len b_app b_call b_call1 b_callR b_ext bo_some bo_none bo2_some bo2_none bo_iaddr bo_addS bo_quo bo_rem bo_bnd bo_bnd0 ld_q0 ld_qw ld_p subP0 subPw bo_moveP bo_moveQ bo_lenl bo_lens bo_lenr bo_add bo_sub bo_mul bo_eql bo_neq bo_lss bo_leq bo_gtr bo_geq bo_neg bo_not bo_eqS bo_neS grd_nb b_slS slSK_s extK_t ownL_l fin_ret fin_norm bo_res0 bo_rest bo_resc st_p stK_box b_callv callvK_f0 callvK_f1 mkf_b subPs ld_qs kC_regS0 kC_regS1 kC_regS2 kC_regS3 kC_regS4 kC_regS5 b_eqb eqbK_b b_agg0 b_bsl0 b_bsl1 app_l app_r appE_n appE_r bo_lenR b_mkif mkifK_d b_tas tasK_i b_mm2 bo_mm2
attribute [local simp] K_refl obj_0 obj_s get_c get_n drop_c drop_n set_c set_n fix_c fix_n rd IOp.adds nadds gh nid rgK rdS ghosts_c ghosts_n packed1 packed2 purT_b purT_i purT_s purT_a purT_lt purT_lf K_ss K_ns K_sn plains_n plains_c env_val env_ref purs_n purs_d put_0 put_s fits_i fits_b fits_s fits_l lt0_nat fits_a purT_t pur_dv frz_n purT_r purT_f
section
namespace Go.Sim
set_option maxRecDepth 10000
theorem reach_od (H : Heap) (b o : Nat) (ho : b ≤ o) : ∀ (n : Nat) (todo : List Nat), (∀ r ∈ todo, r < b ∨ r = o) → reach H b n [o] todo = [o]
 | 0, _, _ => rfl
 | n + 1, [], _ => rfl
 | n + 1, t :: todo, h => by
  rw [reach]
  by_cases g : t < b
  ·rw [if_pos g]; exact reach_od H b o ho n todo fun r hr => h r (List.mem_cons_of_mem _ hr)
  ·obtain rfl : t = o := (h t (List.mem_cons_self ..)).resolve_left g
   rw [if_neg g, if_pos (by simp)]
   exact reach_od H b t ho n todo fun r hr => h r (List.mem_cons_of_mem _ hr)
theorem reach_o1 (H : Heap) (b o : Nat) (ho : b ≤ o) (hx : orefs (H.obj o) = []) : ∀ (fs low : List Nat) (n : Nat), fs.length < n → (∀ r ∈ fs, r < b ∨ r = o) → (∀ r ∈ low, r < b) → o ∈ fs → reach H b n [] (fs ++ low) = [o]
 | [], _, _, _, _, _, h => by cases h
 | t :: fs, low, 0, hn, _, _, _ => absurd hn (Nat.not_lt_zero _)
 | t :: fs, low, n + 1, hn, h1, h2, h => by
  rw [List.cons_append, reach]
  by_cases g : t < b
  ·rw [if_pos g]
   refine reach_o1 H b o ho hx fs low n (by simp at hn; omega) (fun r hr => h1 r (List.mem_cons_of_mem _ hr)) h2 ?_
   rcases List.mem_cons.1 h with h | h
   ·omega
   ·exact h
  ·obtain rfl : t = o := (h1 t (List.mem_cons_self ..)).resolve_left g
   rw [if_neg g, if_neg (by simp), hx, List.nil_append, List.nil_append]
   exact reach_od H b t ho n _ fun r hr => by
    rcases List.mem_append.1 hr with hr | hr
    ·exact h1 r (List.mem_cons_of_mem _ hr)
    ·exact .inl (h2 r hr)
def renO (b o : Nat) : Nat → Option Nat := fun r => if r < b then some r else if r = o then some b else none
theorem place_o1 (b o : Nat) (ho : b ≤ o) : place b [o] = renO b o := by
 funext r
 unfold place renO
 by_cases h : r < b
 ·simp [h]
 ·by_cases h2 : r = o
  ·subst h2; simp [h]
  ·simp only [h, h2, if_false, List.idxOf?_cons]
   have : (o == r) = false := by simpa using fun h => h2 h.symm
   simp [this]
theorem gc_o1 (live : List Nat) {H J : Heap} {fr : Fr} (hH : Cl H) {o : Nat} {x : Obj} (ho : J[o]? = some (some x)) (hx : x.refs = []) (hf : ∀ r ∈ frRefs (Fr.keep live fr), r < H.length ∨ r = H.length + o) (hl : (frRefs (Fr.keep live fr)).length < 1000) (hm : H.length + o ∈ frRefs (Fr.keep live fr)) :
  gc live H.length ⟨fr, H ++ J⟩ = ⟨Fr.ren (renO H.length (H.length + o)) (Fr.keep live fr), H ++ [some x]⟩ := by
 have ht : (H ++ J).take H.length = H := by simp
 have ho' : (H ++ J).obj (H.length + o) = some x := by
  rw [obj_app]; unfold Heap.obj; rw [ho]
 have hr : reach (H ++ J) H.length 1000 [] (frRefs (Fr.keep live fr) ++ heapRefs H) = [H.length + o] := reach_o1 _ _ _ (Nat.le_add_right _ _) (by rw [ho']; exact hx) _ _ _ hl hf hH hm
 simp only [gc, ht, hr, place_o1 _ _ (Nat.le_add_right H.length o), gcH, List.map_cons, List.map_nil, ho']
 have e1 : H.map (·.map (·.ren (renO H.length (H.length + o)))) = H := heap_id fun r hr => by unfold renO; rw [if_pos (hH r hr)]
 rw [e1]
 congr 2
 simp only [Option.map_some]
 cases x with
 | box k v => simp only [Obj.refs] at hx; simp only [Obj.ren]; rw [ren_id _ v (by rw [hx]; intro r hr; cases hr)]
 | _ => rfl
theorem gcV_o1 {H J : Heap} (hH : Cl H) {o : Nat} {x : Obj} {k : K} {off len : Nat} {t : Bool} (ho : J[o]? = some (some x)) (hx : x.refs = []) :
  gcV H.length (.r (H.length + o) k off len t) (H ++ J) = (.r H.length k off len t, H ++ [some x]) := by
 have ht : (H ++ J).take H.length = H := by simp
 have ho' : (H ++ J).obj (H.length + o) = some x := by
  rw [obj_app]; unfold Heap.obj; rw [ho]
 have hr : reach (H ++ J) H.length 1000 [] (PV.refs (.r (H.length + o) k off len t) ++ heapRefs H) = [H.length + o] := reach_o1 _ _ _ (Nat.le_add_right _ _) (by rw [ho']; exact hx) _ _ _ (by simp [PV.refs]) (by simp [PV.refs]) hH (by simp [PV.refs])
 simp only [gcV, ht, hr, place_o1 _ _ (Nat.le_add_right H.length o), gcH, List.map_cons, List.map_nil, ho']
 have e1 : H.map (·.map (·.ren (renO H.length (H.length + o)))) = H := heap_id fun r hr => by unfold renO; rw [if_pos (hH r hr)]
 rw [e1]
 have e2 : PV.ren (renO H.length (H.length + o)) (.r (H.length + o) k off len t) = .r H.length k off len t := by simp only [PV.ren, renO, if_neg (show ¬ (H.length + o < H.length) by omega), if_true]
 rw [e2]
 congr 3
 simp only [Option.map_some]
 cases x with
 | box k v => simp only [Obj.refs] at hx; simp only [Obj.ren]; rw [ren_id _ v (by rw [hx]; intro r hr; cases hr)]
 | _ => rfl
theorem tk_map {α : Type} (A : α → DV) (l : List α) {i : Nat} (hi : i < l.length) : (l.map A).take i ++ [A l[i]] = (l.take (i + 1)).map A := by
 rw [List.take_add_one, List.getElem?_eq_getElem hi, List.map_append, List.map_take]; rfl
theorem put_at (H J : Heap) (x : Option Obj) {n i : Nat} (h : n = H.length + i) : Heap.put (H ++ J) n x = H ++ Heap.put J i x := by rw [h]; exact put_app H J x i
theorem each_loop (T : Tab) {k : K} {b : Nat} {z : DV} {g : Nat} {α : Type} {A : α → DV} {l : List α} (hA : ∀ a ∈ l, fits k (.d (A a)) = true) (hv : ∀ a ∈ l, ∃ o, T.val g [A a] = some (.d (A a), o)) (s : Bool) (hn : l.length ≤ 9223372036854775807) (hb : l.length * b ≤ 140737488355328) (H0 : Heap) (hH : Cl H0) {kk : KC (PV × Heap)} {fr : Fr} {H : Heap}
  (h0 : gc [1, 5, 11, 12, 13] H0.length ⟨fr, H⟩ = ⟨[(13, .d (I 0)), (12, .d (I l.length)), (11, .d (.l k (l.map A) s)), (5, .r H0.length k 0 0 false), (1, .f g [])], H0 ++ [some (.sl k 0 [])]⟩) :
  kC T.env H0.length fr H (.h (.loop [1, 5, 11, 12, 13] (eachL k b z), kk)) = kk (.exit 0) [(14, .d (.b false)), (13, .d (I l.length)), (12, .d (I l.length)), (11, .d (.l k (l.map A) s)), (5, .r H0.length k 0 l.length false), (1, .f g [])] (H0 ++ [some (.sl k 0 (l.map A))]) := by
 rw [loop_rounds l (fun i (_ : Unit) => ⟨[(13, .d (I i)), (12, .d (I l.length)), (11, .d (.l k (l.map A) s)), (5, .r H0.length k 0 i false), (1, .f g [])], H0 ++ [some (.sl k 0 ((l.take i).map A))]⟩) (fun _ _ => True) (fun i _ _ c => c ()) (fun _ => kk (.exit 0) [(14, .d (.b false)), (13, .d (I l.length)), (12, .d (I l.length)), (11, .d (.l k (l.map A) s)), (5, .r H0.length k 0 l.length false), (1, .f g [])] (H0 ++ [some (.sl k 0 (l.map A))])) ?_ ?_ (b0 := ()) (by simpa using h0) trivial]
 ·have : ∀ (m : List α) (i : Nat) (d : Unit → Option (PV × Heap)), rounds (fun _ (_ : Unit) (_ : α) c => c ()) d i () m = d () := by
   intro m
   induction m with
   | nil => intro i d; rfl
   | cons x r ih => intro i d; exact ih (i + 1) d
  exact this _ _ _
 ·intro B _ _ _
  simp [eachL, List.take_length]
 ·intro B _ i _ hi _ c hc
  have h1 : (i : Int) < l.length := by omega
  have h3 := wr1 (i := i) (by omega)
  have hi' : i ≤ l.length := by omega
  obtain ⟨o, he⟩ := hv l[i] (List.getElem_mem hi)
  have hf := hA l[i] (List.getElem_mem hi)
  have hbb : (i + 1) * b ≤ 140737488355328 := Nat.le_trans (Nat.mul_le_mul_right _ (by omega)) hb
  simp [eachL, h1, hi, h3, he, hf, hi', hbb, put_app, put_app0, obj_app, obj_app0, List.append_assoc]
  refine hc () _ _ trivial ?_
  rw [put_at (i := 3) _ _ _ (by omega)]
  rw [gc_o1 _ hH (o := 3) (x := .sl k 0 ((l.take (i + 1)).map A)) ?_ rfl ?_ ?_ ?_]
  ·have e : ¬ (H0.length + 2 + 1 < H0.length) := by omega
   simp [Fr.keep, gh, Fr.ren, PV.ren, PV.renL, renO, e]
  ·simp only [put_s, put_0, List.getElem?_cons_succ, List.getElem?_cons_zero, List.take_take, Nat.min_self, tk_map A l hi]
  ·simp [frRefs, Fr.keep, PV.refs, PV.refsL, gh]
  ·simp [frRefs, Fr.keep, PV.refs, PV.refsL, gh]
  ·simp [frRefs, Fr.keep, PV.refs, PV.refsL, gh]
theorem ref_each (T : Tab) {f : Nat} {k : K} {b : Nat} {z : DV} (hF : T.F f = some (eachF k b z)) {g : Nat} {α : Type} {A : α → DV} {l : List α} (hA : ∀ a ∈ l, fits k (.d (A a)) = true) (hv : ∀ a ∈ l, ∃ o, T.val g [A a] = some (.d (A a), o)) (s : Bool) (hn : l.length ≤ 9223372036854775807) (hb : l.length * b ≤ 140737488355328) (H0 : Heap) (hH : Cl H0) :
  T.ref f [.d (.l k (l.map A) s), .f g []] H0 = some (.r H0.length k 0 l.length false, H0 ++ [some (.sl k 0 (l.map A))]) := by
 rw [ref_k T hF rfl]
 have hbI : (l.length : Int) * b ≤ 140737488355328 := by rw [← Int.natCast_mul]; omega
 simp [eachF, Fr.ofArgs, hbI, put_app0, -st_p, ↓b_mksl, ↓bo_asI]
 rw [each_loop T hA hv s hn hb H0 hH]
 ·simp only [blK, sqK]
  simp [finR_ret]
  exact gcV_o1 hH (o := 0) rfl rfl
 ·have := gc_o1 [1, 5, 11, 12, 13] hH (J := [some (.sl k 0 [])]) (fr := [(13, .d (I 0)), (12, .d (.i .i64 l.length)), (11, .d (.l k (l.map A) s)), (5, .r H0.length k 0 0 false), (1, .f g [])]) (o := 0) rfl rfl (by simp [frRefs, Fr.keep, PV.refs, PV.refsL, gh]) (by simp [frRefs, Fr.keep, PV.refs, PV.refsL, gh]) (by simp [frRefs, Fr.keep, PV.refs, PV.refsL, gh])
  rw [this]
  simp [Fr.keep, gh, Fr.ren, PV.ren, PV.renL, renO]
end Go.Sim
end
end
section
namespace Go.Sim
section
variable {R : Type} {E : Env} {fr : Fr} {H : Heap} {bf : List Nat} {acc : List (List Nat × List Nat)} {id : Nat} {j : KO R}
def allB (b : Nat) : Nat → Nat → Bool
 | _, 0 => true
 | i, n + 1 => b.testBit i && allB b (i + 1) n
theorem pairs_all (b : Nat) (t w : List Nat) : ∀ (acc : List (List Nat × List Nat)) (i : Nat), allB b i acc.length = true → pairsD b i acc t w = true
 | [], _, _ => rfl
 | x :: r, i, h => by
  simp only [List.length_cons, allB, Bool.and_eq_true] at h
  simp only [pairsD, h.1, Bool.true_or, Bool.true_and]
  exact pairs_all b t w r (i + 1) h.2
end
end Go.Sim
end
section
open Go.Sim
attribute [local simp ↓] kC_skip kC_ret kC_exit kC_seq kC_block kC_reg kC_cond kC_condc sqK blK lpK kO_nil kO_O kO_E kO_OG kO_EG grd_b grd_t tst_b brn_true brn_false brn_not chk_T b_mov b_pick b_alloc b_box b_load b_store b_bin b_un b_eqv b_faddr b_field b_iaddr b_sl b_len b_app b_call b_call1 b_callR b_ext bo_some bo_none bo2_some bo2_none bo_iaddr bo_addS bo_quo bo_rem bo_bnd bo_bnd0 ld_q0 ld_qw ld_p subP0 subPw bo_moveP bo_moveQ bo_lenl bo_lens bo_lenr bo_add bo_sub bo_mul bo_eql bo_neq bo_lss bo_leq bo_gtr bo_geq bo_neg bo_not bo_eqS bo_neS grd_nb b_slS slSK_s extK_t ownL_l fin_ret fin_norm bo_res0 bo_rest bo_resc st_p stK_box b_callv callvK_f0 callvK_f1 mkf_b subPs ld_qs kC_regS0 kC_regS1 kC_regS2 kC_regS3 kC_regS4 kC_regS5 b_eqb eqbK_b b_agg0 b_bsl0 b_bsl1 app_l app_r appE_n appE_r bo_lenR b_mkif mkifK_d b_tas tasK_i b_mm2 bo_mm2
attribute [local simp] K_refl obj_0 obj_s get_c get_n drop_c drop_n set_c set_n fix_c fix_n rd IOp.adds nadds gh nid rgK rdS ghosts_c ghosts_n packed1 packed2 purT_b purT_i purT_s purT_a purT_lt purT_lf K_ss K_ns K_sn plains_n plains_c env_val env_ref purs_n purs_d put_0 put_s fits_i fits_b fits_s fits_l lt0_nat fits_a purT_t pur_dv frz_n purT_r purT_f
section
namespace Go.Sim
set_option maxRecDepth 10000
section
variable {R : Type} {y : PV → Option R}
theorem plains_set : ∀ (l : List PV) (c : Nat) (v : PV), c < l.length → plains [v] = none → plains (l.set c v) = none
 | x :: l, 0, v, _, hv => by
  rw [List.set_cons_zero]
  cases v with
  | d x => simp [plains] at hv
  | _ => rfl
 | x :: l, c + 1, v, h, hv => by
  rw [List.set_cons_succ]
  have ih := plains_set l c v (by simpa using h) hv
  cases x with
  | d x => simp only [plains, ih]
  | _ => rfl
theorem putAt_1 {α : Type} (l : List α) (c : Nat) (v : α) (h : c < l.length) : putAt l c [v] = l.set c v := by
 unfold putAt
 rw [List.set_eq_take_append_cons_drop, if_pos h]
 simp
theorem mkP_r {n c o off len : Nat} {l : List PV} {k : K} {t : Bool} : bo (mkP (some n) (putAt l c (PV.cells (.r o k off len t)))) (.h y) = chk (l.length = n ∧ c < n) (.h (y (.a (l.set c (.r o k off len t))))) ∨ ¬ (l.length = n ∧ c < n) := by
 by_cases h : l.length = n ∧ c < n
 ·left
  have hc : c < l.length := by omega
  unfold chk
  rw [if_pos h]
  show bo (mkP (some n) (putAt l c [_])) _ = _
  rw [putAt_1 _ _ _ hc]
  simp only [mkP, List.length_set, h.1, if_true, mkA, plains_set l c (.r o k off len t) hc rfl, bo]
 ·exact .inr h
theorem mkP_go {n c o off len : Nat} {l : List PV} {k : K} {t : Bool} {z : Option R} (h : l.length = n ∧ c < n) (hy : y (.a (l.set c (.r o k off len t))) = z) : bo (mkP (some n) (putAt l c (PV.cells (.r o k off len t)))) (.h y) = z := by
 rcases mkP_r (y := y) (n := n) (c := c) (o := o) (off := off) (len := len) (l := l) (k := k) (t := t) with h1 | h1
 ·rw [h1]; unfold chk; rw [if_pos h]; exact hy
 ·exact absurd h h1
theorem mkP_eq {n c o off len : Nat} {l : List PV} {k : K} {t : Bool} (h : l.length = n ∧ c < n) : bo (mkP (some n) (putAt l c (PV.cells (.r o k off len t)))) (.h y) = y (.a (l.set c (.r o k off len t))) := mkP_go h rfl
theorem putAt_map (l xs : List DV) (c : Nat) : putAt (l.map PV.d) c (xs.map PV.d) = (putAt l c xs).map PV.d := by
 simp only [putAt, List.map_append, List.map_take, List.map_drop, List.length_map]
theorem mkP_self {n c : Nat} {l : List DV} {v : DV} (h : putAt l c v.cells = l) (hn : l.length = n) : bo (mkP (some n) (putAt (l.map PV.d) c (v.cells.map PV.d))) (.h y) = y (.d (.a l)) := by
 rw [putAt_map, h]
 have : (l.map PV.d).length = n := by simpa using hn
 simp only [mkP, this, if_true, mkA, plains_d, bo]
theorem mkP_slf {n c : Nat} {v w : DV} (h : putAt v.cells c w.cells = v.cells) (hv : DV.a v.cells = v) (hn : v.cells.length = n) : bo (mkP (some n) (putAt (PV.cells (.d v)) c (PV.cells (.d w)))) (.h y) = y (.d v) := by
 rw [cells_d, cells_d, mkP_self h hn, hv]
theorem mkP_same {n c c' o off len : Nat} {l : List PV} {k : K} {t t' : Bool} {k' : K} {es : List DV} (h : (l.set c' (.r o k off len t))[c]? = some (.d (.l k' es t'))) (hn : l.length = n) (hc : c' < l.length) : bo (mkP (some n) (putAt (l.set c' (.r o k off len t)) c [.d (.l k' es t')])) (.h y) = y (.a (l.set c' (.r o k off len t))) := by
 obtain ⟨h1, h2⟩ := List.getElem?_eq_some_iff.1 h
 rw [putAt_1 _ _ _ h1, ← h2, List.set_getElem_self]
 have h3 : plains (l.set c' (.r o k off len t)) = none := plains_set l c' _ hc rfl
 simp only [mkP, List.length_set, hn, if_true, mkA, h3, bo]
theorem dcells_l (k : K) (es : List DV) (t : Bool) : DV.cells (.l k es t) = [.l k es t] := rfl
theorem subPa {n c : Nat} {l : List PV} : bo (subP (some n) (.a l) c none) (.h y) = chk (c < n) (.h (bo l[c]? (.h y))) := by
 unfold chk
 simp only [subP, K.eq, Bool.and_false, Bool.false_eq_true, if_false]
 change bo (@ite _ (c + 1 ≤ n) (Nat.decLe _ _) (mkP none ((List.drop c l).take 1)) none) (.h y) = _
 by_cases h : c < n
 ·rw [if_pos h, if_pos (by omega), take1]
  cases l[c]? <;> rfl
 ·rw [if_neg h, if_neg (by omega)]; rfl
theorem cells_a (l : List PV) : PV.cells (.a l) = l := rfl
theorem fits_al {n : Nat} {l : List PV} : fits (some n) (.a l) = (l.length == n) := rfl
theorem refsL_d : ∀ l : List DV, PV.refsL (l.map PV.d) = []
 | [] => rfl
 | x :: l => by simp [PV.refsL, PV.refs, refsL_d l]
theorem refsL_set : ∀ (l : List PV) (c : Nat) (v : PV) (r : Nat), r ∈ PV.refsL (l.set c v) → r ∈ PV.refsL l ∨ r ∈ v.refs
 | [], _, _, r, h => by simp [PV.refsL] at h
 | x :: l, 0, v, r, h => by
  rw [List.set_cons_zero] at h
  simp only [PV.refsL, List.mem_append] at h ⊢
  rcases h with h | h
  ·exact .inr h
  ·exact .inl (.inr h)
 | x :: l, c + 1, v, r, h => by
  rw [List.set_cons_succ] at h
  simp only [PV.refsL, List.mem_append] at h ⊢
  rcases h with h | h
  ·exact .inl (.inl h)
  ·rcases refsL_set l c v r h with h | h
   ·exact .inl (.inr h)
   ·exact .inr h
def PurL (H : Heap) (l : List PV) (xs : List DV) : Prop := ∃ os, purL H l = some (xs, os)
theorem purL_d (H : Heap) : ∀ xs : List DV, PurL H (xs.map .d) xs
 | [] => ⟨[], rfl⟩
 | x :: xs => by
  obtain ⟨os, h⟩ := purL_d H xs
  exact ⟨_, by simp only [List.map_cons, purL, purC, h]; rfl⟩
theorem purL_set0 {H : Heap} {o ro : Nat} {k : K} {es : List DV} {t : Bool} : ∀ {l : List PV} {xs : List DV} {c : Nat}, PurL H l xs → H.obj o = some (.sl k ro es) → xs[c]? = some (.l k es false) → PurL H (l.set c (.r o k 0 es.length t)) xs
 | [], xs, c, h, _, hc => by
  obtain ⟨os, h⟩ := h
  cases h
  simp at hc
 | v :: l, xs, c, h, ho, hc => by
  obtain ⟨os, h⟩ := h
  simp only [purL] at h
  cases h1 : purC H v with
  | none => simp [h1] at h
  | some p =>
   cases h2 : purL H l with
   | none => simp [h1, h2] at h
   | some q =>
    obtain ⟨p, p'⟩ := p
    obtain ⟨q, q'⟩ := q
    simp only [h1, h2, Option.some.injEq, Prod.mk.injEq] at h
    obtain ⟨rfl, -⟩ := h
    cases c with
    | zero =>
     simp only [List.getElem?_cons_zero, Option.some.injEq] at hc
     subst hc
     rw [List.set_cons_zero]
     exact ⟨_, by simp only [purL, purC, ho, h2, Nat.zero_add, Nat.le_refl, and_self, if_true, List.drop_zero, List.take_length]; rfl⟩
    | succ c =>
     simp only [List.getElem?_cons_succ] at hc
     obtain ⟨os, h3⟩ := purL_set0 (t := t) ⟨_, h2⟩ ho hc
     rw [List.set_cons_succ]
     exact ⟨_, by simp only [purL, h1, h3]; rfl⟩
theorem purL_set {H : Heap} {o ro n : Nat} {k : K} {es : List DV} {t : Bool} {l : List PV} {xs : List DV} {c : Nat} (h : PurL H l xs) (ho : H.obj o = some (.sl k ro es)) (hc : xs[c]? = some (.l k es false)) (hn : n = es.length) : PurL H (l.set c (.r o k 0 n t)) xs := by
 rw [hn]; exact purL_set0 h ho hc
theorem purL_setv0 {H : Heap} {o ro : Nat} {k : K} {es : List DV} {t : Bool} : ∀ {l : List PV} {xs : List DV} {c : Nat}, PurL H l xs → H.obj o = some (.sl k ro es) → c < xs.length → PurL H (l.set c (.r o k 0 es.length t)) (xs.set c (.l k es false))
 | [], xs, c, h, _, hc => by
  obtain ⟨os, h⟩ := h
  cases h
  simp at hc
 | v :: l, xs, c, h, ho, hc => by
  obtain ⟨os, h⟩ := h
  simp only [purL] at h
  cases h1 : purC H v with
  | none => simp [h1] at h
  | some p =>
   cases h2 : purL H l with
   | none => simp [h1, h2] at h
   | some q =>
    obtain ⟨p, p'⟩ := p
    obtain ⟨q, q'⟩ := q
    simp only [h1, h2, Option.some.injEq, Prod.mk.injEq] at h
    obtain ⟨rfl, -⟩ := h
    cases c with
    | zero =>
     rw [List.set_cons_zero, List.set_cons_zero]
     exact ⟨_, by simp only [purL, purC, ho, h2, Nat.zero_add, Nat.le_refl, and_self, if_true, List.drop_zero, List.take_length]; rfl⟩
    | succ c =>
     obtain ⟨os, h3⟩ := purL_setv0 (t := t) ⟨_, h2⟩ ho (by simpa using hc)
     rw [List.set_cons_succ, List.set_cons_succ]
     exact ⟨_, by simp only [purL, h1, h3]; rfl⟩
theorem purL_setv {H : Heap} {o ro n : Nat} {k : K} {es : List DV} {t : Bool} {l : List PV} {xs : List DV} {c : Nat} (h : PurL H l xs) (ho : H.obj o = some (.sl k ro es)) (hc : c < xs.length) (hn : n = es.length) : PurL H (l.set c (.r o k 0 n t)) (xs.set c (.l k es false)) := by
 rw [hn]; exact purL_setv0 h ho hc
theorem purT_al {H : Heap} {l : List PV} {xs : List DV} (h : PurL H l xs) : purT H (.a l) = some (.d (.a xs), false) := by
 obtain ⟨os, h⟩ := h
 simp only [purT, pur, h]
structure RB (n : Nat) (l : List PV) : Prop where
 h : ∀ r ∈ PV.refsL l, r < n
structure ClB (n : Nat) (H : Heap) : Prop where
 h : ∀ r ∈ heapRefs H, r < n
theorem rb_d (n : Nat) (l : List DV) : RB n (l.map .d) := ⟨by intro r hr; rw [refsL_d] at hr; cases hr⟩
theorem rb_set {n : Nat} {l : List PV} {c o off len : Nat} {k : K} {t : Bool} (h : RB n l) (ho : o < n) : RB n (l.set c (.r o k off len t)) := ⟨by
 intro r hr
 rcases refsL_set _ _ _ _ hr with h1 | h1
 ·exact h.h r h1
 ·simp [PV.refs] at h1; omega⟩
theorem clB_n (n : Nat) : ClB n [] := ⟨fun r h => by cases h⟩
theorem clB_bd {n : Nat} {H : Heap} {k : K} {v : DV} (h : ClB n H) : ClB n (some (.box k (.d v)) :: H) := ⟨h.h⟩
theorem clB_ba {n : Nat} {H : Heap} {k : K} {l : List PV} (hl : RB n l) (h : ClB n H) : ClB n (some (.box k (.a l)) :: H) := ⟨by
 intro r hr
 simp only [heapRefs, orefs, Obj.refs, PV.refs, List.mem_append] at hr
 rcases hr with hr | hr
 ·exact hl.h r hr
 ·exact h.h r hr⟩
theorem clB_sl {n : Nat} {H : Heap} {k : K} {ro : Nat} {es : List DV} (h : ClB n H) : ClB n (some (.sl k ro es) :: H) := ⟨h.h⟩
theorem clB_o {n : Nat} {H : Heap} (h : ClB n H) : ClB n (none :: H) := ⟨h.h⟩
end
def HCl (T : Tab) (f : Nat) (k : K) (b : Nat) : Prop := ∀ ds, T.val f ds = cloneX k b ds
theorem hc_val {T : Tab} {f : Nat} {k : K} {b : Nat} (h : HCl T f k b) {es : List DV} {t : Bool} (hb : es.length * b ≤ cap47) : T.val f [.l k es t] = some (.d (.l k es false), true) := by
 rw [h, cloneX]
 have : es.length * b ≤ 2 ^ 47 := hb
 simp [this, K_refl]
end Go.Sim
end
end
section
namespace Go.Sim
def lsb {α : Type} (f : α → α → Bool) : List α → List α → Bool
 | [], [] => true
 | x :: xs, y :: ys => f x y && lsb f xs ys
 | _, _ => false
theorem lsb_refl {α : Type} {f : α → α → Bool} (h : ∀ x, f x x = true) : ∀ l, lsb f l l = true
 | [] => rfl
 | x :: l => by simp [lsb, h, lsb_refl h l]
theorem lsb_len {α : Type} {f : α → α → Bool} : ∀ l m, l.length ≠ m.length → lsb f l m = false
 | [], [], h => absurd rfl h
 | [], _ :: _, _ => rfl
 | _ :: _, [], _ => rfl
 | x :: l, y :: m, h => by simp [lsb, lsb_len l m (by simpa using h)]
theorem zip_of {α : Type} : ∀ (l m : List α), l.length = m.length → ∃ z : List (α × α), l = z.map Prod.fst ∧ m = z.map Prod.snd
 | [], [], _ => ⟨[], rfl, rfl⟩
 | x :: l, y :: m, h => by
  obtain ⟨z, h1, h2⟩ := zip_of l m (by simpa using h)
  exact ⟨(x, y) :: z, by simp [h1], by simp [h2]⟩
 | [], _ :: _, h => by simp at h
 | _ :: _, [], h => by simp at h
theorem lsb_zip {α : Type} (f : α → α → Bool) : ∀ z : List (α × α), lsb f (z.map Prod.fst) (z.map Prod.snd) = z.all fun p => f p.1 p.2
 | [] => rfl
 | p :: z => by simp [lsb, lsb_zip f z]
def ibq (x y : Int) : Bool := x == y
theorem ibq_refl (x : Int) : ibq x x = true := by simp [ibq]
def sbq (x y : List UInt8) : Bool := x == y
theorem sbq_refl (x : List UInt8) : sbq x x = true := by simp [sbq]
def bbq (x y : Bool) : Bool := x == y
theorem bbq_refl (x : Bool) : bbq x x = true := by simp [bbq]
mutual
def deq : DV → DV → Bool
 | .b x, .b y => x == y
 | .i k n, .i k' m => decide (k = k') && decide (n = m)
 | .s x, .s y => x == y
 | .a cs, .a ds => deqL cs ds
 | .l _ es _, .l _ fs _ => deqL es fs
 | .np, .np => true
 | .nf, .nf => true
 | .ni, .ni => true
 | .nm, .nm => true
 | .ifc t v, .ifc t' w => Nat.beq t t' && deq v w
 | .tok n, .tok m => Nat.beq n m
 | _, _ => false
def deqL : List DV → List DV → Bool
 | [], [] => true
 | x :: xs, y :: ys => deq x y && deqL xs ys
 | _, _ => false
end
mutual
theorem deq_refl : ∀ x, deq x x = true
 | .b x => by simp [deq]
 | .i k n => by simp [deq]
 | .s x => by simp [deq]
 | .a cs => by simp [deq, deqL_refl cs]
 | .l k es t => by simp [deq, deqL_refl es]
 | .np => rfl
 | .nf => rfl
 | .ni => rfl
 | .nm => rfl
 | .ifc t v => by simp [deq, deq_refl v]
 | .tok n => by simp [deq]
theorem deqL_refl : ∀ x, deqL x x = true
 | [] => rfl
 | x :: xs => by simp [deqL, deq_refl x, deqL_refl xs]
end
def AWide.beq (x y : AWide) : Bool := ibq x.Hi y.Hi && ibq x.Lo y.Lo
theorem AWide.beq_refl (x : AWide) : AWide.beq x x = true := by
 simp only [AWide.beq, ibq_refl, Bool.and_true]
def ACurrency.beq (x y : ACurrency) : Bool := sbq x.Code y.Code && ibq x.Digits y.Digits
theorem ACurrency.beq_refl (x : ACurrency) : ACurrency.beq x x = true := by
 simp only [ACurrency.beq, sbq_refl, ibq_refl, Bool.and_true]
def ACalendar.beq (x y : ACalendar) : Bool := sbq x.Name y.Name && lsb ibq x.Weekend.l y.Weekend.l && lsb ibq x.Holidays.l y.Holidays.l
theorem ACalendar.beq_refl (x : ACalendar) : ACalendar.beq x x = true := by
 simp only [ACalendar.beq, sbq_refl, lsb_refl ibq_refl, Bool.and_true]
def ATier.beq (x y : ATier) : Bool := ibq x.From y.From && ibq x.Ppm y.Ppm
theorem ATier.beq_refl (x : ATier) : ATier.beq x x = true := by
 simp only [ATier.beq, ibq_refl, Bool.and_true]
def AInterest.beq (x y : AInterest) : Bool := lsb ATier.beq x.Tiers.l y.Tiers.l && bbq x.Marginal y.Marginal && ibq x.Basis y.Basis && ibq x.Mode y.Mode && bbq x.Keep y.Keep
theorem AInterest.beq_refl (x : AInterest) : AInterest.beq x x = true := by
 simp only [AInterest.beq, lsb_refl ATier.beq_refl, bbq_refl, ibq_refl, Bool.and_true]
def AExpr.beq (x y : AExpr) : Bool := ibq x.Op y.Op && ibq x.N y.N && sbq x.S y.S && deqL x.Args.l y.Args.l
theorem AExpr.beq_refl (x : AExpr) : AExpr.beq x x = true := by
 simp only [AExpr.beq, ibq_refl, sbq_refl, deqL_refl, Bool.and_true]
def AFee.beq (x y : AFee) : Bool := sbq x.Name y.Name && ibq x.Event y.Event && AExpr.beq x.When y.When && AExpr.beq x.Amount y.Amount
theorem AFee.beq_refl (x : AFee) : AFee.beq x x = true := by
 simp only [AFee.beq, sbq_refl, ibq_refl, AExpr.beq_refl, Bool.and_true]
def ARule.beq (x y : ARule) : Bool := sbq x.Name y.Name && ibq x.Window y.Window && AExpr.beq x.Amount y.Amount
theorem ARule.beq_refl (x : ARule) : ARule.beq x x = true := by
 simp only [ARule.beq, sbq_refl, ibq_refl, AExpr.beq_refl, Bool.and_true]
def AProduct.beq (x y : AProduct) : Bool := sbq x.Name y.Name && sbq x.Currency y.Currency && sbq x.Calendar y.Calendar && ibq x.From y.From && ibq x.Every y.Every && ibq x.Overdraft y.Overdraft && ibq x.TaxPpm y.TaxPpm && AInterest.beq x.Credit y.Credit && AInterest.beq x.Debit y.Debit && lsb AFee.beq x.Fees.l y.Fees.l && lsb ARule.beq x.Rules.l y.Rules.l
theorem AProduct.beq_refl (x : AProduct) : AProduct.beq x x = true := by
 simp only [AProduct.beq, sbq_refl, ibq_refl, AInterest.beq_refl, lsb_refl AFee.beq_refl, lsb_refl ARule.beq_refl, Bool.and_true]
def AGl.beq (x y : AGl) : Bool := ibq x.Id y.Id && ibq x.Parent y.Parent && ibq x.Kind y.Kind && sbq x.Name y.Name
theorem AGl.beq_refl (x : AGl) : AGl.beq x x = true := by
 simp only [AGl.beq, ibq_refl, sbq_refl, Bool.and_true]
def ALeg.beq (x y : ALeg) : Bool := ibq x.Account y.Account && ibq x.Amount y.Amount && sbq x.Currency y.Currency
theorem ALeg.beq_refl (x : ALeg) : ALeg.beq x x = true := by
 simp only [ALeg.beq, ibq_refl, sbq_refl, Bool.and_true]
def AEntry.beq (x y : AEntry) : Bool := ibq x.Id y.Id && ibq x.Booked y.Booked && ibq x.Value y.Value && ibq x.Kind y.Kind && ibq x.Auth y.Auth && ibq x.Period y.Period && sbq x.Key y.Key && sbq x.Text y.Text && lsb ALeg.beq x.Legs.l y.Legs.l && ibq x.Chain y.Chain
theorem AEntry.beq_refl (x : AEntry) : AEntry.beq x x = true := by
 simp only [AEntry.beq, ibq_refl, sbq_refl, lsb_refl ALeg.beq_refl, Bool.and_true]
def AHold.beq (x y : AHold) : Bool := ibq x.Id y.Id && ibq x.Account y.Account && ibq x.Amount y.Amount && ibq x.From y.From && ibq x.To y.To && sbq x.Key y.Key
theorem AHold.beq_refl (x : AHold) : AHold.beq x x = true := by
 simp only [AHold.beq, ibq_refl, sbq_refl, Bool.and_true]
def ABlock.beq (x y : ABlock) : Bool := ibq x.Id y.Id && ibq x.Account y.Account && ibq x.Kind y.Kind && ibq x.Amount y.Amount && ibq x.From y.From && ibq x.To y.To && sbq x.Source y.Source
theorem ABlock.beq_refl (x : ABlock) : ABlock.beq x x = true := by
 simp only [ABlock.beq, ibq_refl, sbq_refl, Bool.and_true]
def AAccount.beq (x y : AAccount) : Bool := ibq x.Id y.Id && ibq x.Opened y.Opened && ibq x.Closed y.Closed && ibq x.Extra y.Extra && sbq x.Owner y.Owner && sbq x.Product y.Product && sbq x.Number y.Number
theorem AAccount.beq_refl (x : AAccount) : AAccount.beq x x = true := by
 simp only [AAccount.beq, ibq_refl, sbq_refl, Bool.and_true]
def APlan.beq (x y : APlan) : Bool := ibq x.Cash y.Cash && ibq x.Deposits y.Deposits && ibq x.InterestPaid y.InterestPaid && ibq x.InterestEarned y.InterestEarned && ibq x.FeeEarned y.FeeEarned && ibq x.Tax y.Tax && ibq x.Clearing y.Clearing && ibq x.Loans y.Loans && ibq x.LoanInterest y.LoanInterest && ibq x.Penalty y.Penalty && ibq x.Provision y.Provision && ibq x.ProvisionCost y.ProvisionCost && ibq x.Loss y.Loss && ibq x.Recovery y.Recovery
theorem APlan.beq_refl (x : APlan) : APlan.beq x x = true := by
 simp only [APlan.beq, ibq_refl, Bool.and_true]
def ABooks.beq (x y : ABooks) : Bool := lsb ACurrency.beq x.Currencies.l y.Currencies.l && lsb ACalendar.beq x.Calendars.l y.Calendars.l && lsb AGl.beq x.Chart.l y.Chart.l && APlan.beq x.Plan y.Plan && lsb AProduct.beq x.Products.l y.Products.l && lsb AAccount.beq x.Accounts.l y.Accounts.l && lsb AEntry.beq x.Journal.l y.Journal.l && lsb AHold.beq x.Holds.l y.Holds.l && lsb ABlock.beq x.Blocks.l y.Blocks.l
theorem ABooks.beq_refl (x : ABooks) : ABooks.beq x x = true := by
 simp only [ABooks.beq, lsb_refl ACurrency.beq_refl, lsb_refl ACalendar.beq_refl, lsb_refl AGl.beq_refl, APlan.beq_refl, lsb_refl AProduct.beq_refl, lsb_refl AAccount.beq_refl, lsb_refl AEntry.beq_refl, lsb_refl AHold.beq_refl, lsb_refl ABlock.beq_refl, Bool.and_true]
def APeriod.beq (x y : APeriod) : Bool := ibq x.Account y.Account && ibq x.From y.From && ibq x.To y.To && ibq x.Credit y.Credit && ibq x.Debit y.Debit && ibq x.Tax y.Tax && ibq x.Count y.Count && AWide.beq x.CreditRest y.CreditRest && AWide.beq x.DebitRest y.DebitRest
theorem APeriod.beq_refl (x : APeriod) : APeriod.beq x x = true := by
 simp only [APeriod.beq, ibq_refl, AWide.beq_refl, Bool.and_true]
def ATerms.beq (x y : ATerms) : Bool := ibq x.Method y.Method && ibq x.Principal y.Principal && ibq x.Ppm y.Ppm && ibq x.Start y.Start && ibq x.Every y.Every && ibq x.Count y.Count && ibq x.Balloon y.Balloon && ibq x.Mode y.Mode && ibq x.PenaltyPpm y.PenaltyPpm && ibq x.FeePpm y.FeePpm && sbq x.Calendar y.Calendar && sbq x.Currency y.Currency
theorem ATerms.beq_refl (x : ATerms) : ATerms.beq x x = true := by
 simp only [ATerms.beq, ibq_refl, sbq_refl, Bool.and_true]
def AChange.beq (x y : AChange) : Bool := ibq x.Day y.Day && ibq x.Amount y.Amount && ATerms.beq x.Old y.Old
theorem AChange.beq_refl (x : AChange) : AChange.beq x x = true := by
 simp only [AChange.beq, ibq_refl, ATerms.beq_refl, Bool.and_true]
def ADue.beq (x y : ADue) : Bool := ibq x.No y.No && ibq x.Day y.Day && ibq x.Principal y.Principal && ibq x.Interest y.Interest
theorem ADue.beq_refl (x : ADue) : ADue.beq x x = true := by
 simp only [ADue.beq, ibq_refl, Bool.and_true]
def ALoan.beq (x y : ALoan) : Bool := ibq x.Id y.Id && ibq x.Account y.Account && ibq x.State y.State && ibq x.PaidPrincipal y.PaidPrincipal && ibq x.PaidInterest y.PaidInterest && ibq x.Fee y.Fee && ibq x.Penalty y.Penalty && ibq x.Charged y.Charged && ibq x.Provision y.Provision && ibq x.Loss y.Loss && ibq x.Recovered y.Recovered && ATerms.beq x.Terms y.Terms && lsb ADue.beq x.Dues.l y.Dues.l && lsb AChange.beq x.Changes.l y.Changes.l
theorem ALoan.beq_refl (x : ALoan) : ALoan.beq x x = true := by
 simp only [ALoan.beq, ibq_refl, ATerms.beq_refl, lsb_refl ADue.beq_refl, lsb_refl AChange.beq_refl, Bool.and_true]
def AOrder.beq (x y : AOrder) : Bool := ibq x.Id y.Id && ibq x.From y.From && ibq x.To y.To && ibq x.Amount y.Amount && ibq x.Day y.Day && ibq x.Every y.Every && ibq x.Anchor y.Anchor && ibq x.Until y.Until && ibq x.Tries y.Tries && sbq x.Text y.Text
theorem AOrder.beq_refl (x : AOrder) : AOrder.beq x x = true := by
 simp only [AOrder.beq, ibq_refl, sbq_refl, Bool.and_true]
def AMandate.beq (x y : AMandate) : Bool := ibq x.Id y.Id && ibq x.Account y.Account && ibq x.Limit y.Limit && ibq x.Signed y.Signed && ibq x.Used y.Used && ibq x.Revoked y.Revoked && sbq x.Creditor y.Creditor
theorem AMandate.beq_refl (x : AMandate) : AMandate.beq x x = true := by
 simp only [AMandate.beq, ibq_refl, sbq_refl, Bool.and_true]
def ADebit.beq (x y : ADebit) : Bool := ibq x.Id y.Id && ibq x.Mandate y.Mandate && ibq x.Amount y.Amount && ibq x.Day y.Day && ibq x.Settled y.Settled && ibq x.Returned y.Returned && ibq x.Reason y.Reason && ibq x.State y.State && sbq x.Key y.Key
theorem ADebit.beq_refl (x : ADebit) : ADebit.beq x x = true := by
 simp only [ADebit.beq, ibq_refl, sbq_refl, Bool.and_true]
def AMessage.beq (x y : AMessage) : Bool := sbq x.Sender y.Sender && ibq x.Seq y.Seq && ibq x.Kind y.Kind && ibq x.Account y.Account && ibq x.Amount y.Amount && ibq x.Day y.Day && sbq x.Text y.Text
theorem AMessage.beq_refl (x : AMessage) : AMessage.beq x x = true := by
 simp only [AMessage.beq, sbq_refl, ibq_refl, Bool.and_true]
def APosting.beq (x y : APosting) : Bool := ibq x.Entry y.Entry && ibq x.Day y.Day && ibq x.Amount y.Amount && sbq x.Text y.Text
theorem APosting.beq_refl (x : APosting) : APosting.beq x x = true := by
 simp only [APosting.beq, ibq_refl, sbq_refl, Bool.and_true]
def AStatement.beq (x y : AStatement) : Bool := ibq x.Account y.Account && ibq x.No y.No && ibq x.From y.From && ibq x.To y.To && ibq x.Opening y.Opening && ibq x.Closing y.Closing && lsb APosting.beq x.Lines.l y.Lines.l
theorem AStatement.beq_refl (x : AStatement) : AStatement.beq x x = true := by
 simp only [AStatement.beq, ibq_refl, lsb_refl APosting.beq_refl, Bool.and_true]
def AUser.beq (x y : AUser) : Bool := sbq x.Name y.Name && ibq x.Rights y.Rights && ibq x.Limit y.Limit
theorem AUser.beq_refl (x : AUser) : AUser.beq x x = true := by
 simp only [AUser.beq, sbq_refl, ibq_refl, Bool.and_true]
def ACommand.beq (x y : ACommand) : Bool := ibq x.Kind y.Kind && ibq x.Account y.Account && ibq x.Other y.Other && ibq x.Amount y.Amount && ibq x.Value y.Value && ibq x.Number y.Number && sbq x.User y.User && sbq x.Key y.Key && sbq x.Text y.Text && ATerms.beq x.Terms y.Terms && AMessage.beq x.Message y.Message && lsb ibq x.Crashes.l y.Crashes.l
theorem ACommand.beq_refl (x : ACommand) : ACommand.beq x x = true := by
 simp only [ACommand.beq, ibq_refl, sbq_refl, ATerms.beq_refl, AMessage.beq_refl, lsb_refl ibq_refl, Bool.and_true]
def ARequest.beq (x y : ARequest) : Bool := ibq x.Id y.Id && ibq x.Day y.Day && ibq x.Until y.Until && ibq x.State y.State && sbq x.Maker y.Maker && sbq x.Checker y.Checker && ACommand.beq x.Command y.Command
theorem ARequest.beq_refl (x : ARequest) : ARequest.beq x x = true := by
 simp only [ARequest.beq, ibq_refl, sbq_refl, ACommand.beq_refl, Bool.and_true]
def AMark.beq (x y : AMark) : Bool := ibq x.Day y.Day && sbq x.User y.User && sbq x.Action y.Action && sbq x.Object y.Object && ibq x.Chain y.Chain
theorem AMark.beq_refl (x : AMark) : AMark.beq x x = true := by
 simp only [AMark.beq, ibq_refl, sbq_refl, Bool.and_true]
def ARun.beq (x y : ARun) : Bool := bbq x.Active y.Active && ibq x.Next y.Next && ibq x.Shards y.Shards && ibq x.Restarts y.Restarts
theorem ARun.beq_refl (x : ARun) : ARun.beq x x = true := by
 simp only [ARun.beq, bbq_refl, ibq_refl, Bool.and_true]
def AAvail.beq (x y : AAvail) : Bool := ibq x.Account y.Account && ibq x.Amount y.Amount && ibq x.Used y.Used
theorem AAvail.beq_refl (x : AAvail) : AAvail.beq x x = true := by
 simp only [AAvail.beq, ibq_refl, Bool.and_true]
def AWait.beq (x y : AWait) : Bool := ibq x.Account y.Account && ibq x.Amount y.Amount && sbq x.Key y.Key
theorem AWait.beq_refl (x : AWait) : AWait.beq x x = true := by
 simp only [AWait.beq, ibq_refl, sbq_refl, Bool.and_true]
def ANight.beq (x y : ANight) : Bool := ibq x.Limit y.Limit && lsb AAvail.beq x.Avail.l y.Avail.l && lsb AWait.beq x.Queue.l y.Queue.l
theorem ANight.beq_refl (x : ANight) : ANight.beq x x = true := by
 simp only [ANight.beq, ibq_refl, lsb_refl AAvail.beq_refl, lsb_refl AWait.beq_refl, Bool.and_true]
def ABank.beq (x y : ABank) : Bool := ibq x.Day y.Day && ibq x.NextId y.NextId && sbq x.Home y.Home && ABooks.beq x.Books y.Books && lsb APeriod.beq x.Periods.l y.Periods.l && lsb ALoan.beq x.Loans.l y.Loans.l && lsb AOrder.beq x.Orders.l y.Orders.l && lsb AMandate.beq x.Mandates.l y.Mandates.l && lsb ADebit.beq x.Debits.l y.Debits.l && lsb AMessage.beq x.Inbox.l y.Inbox.l && lsb AStatement.beq x.Statements.l y.Statements.l && lsb AUser.beq x.Users.l y.Users.l && lsb ARequest.beq x.Requests.l y.Requests.l && lsb AMark.beq x.Trail.l y.Trail.l && ARun.beq x.Run y.Run && ANight.beq x.Night y.Night
theorem ABank.beq_refl (x : ABank) : ABank.beq x x = true := by
 simp only [ABank.beq, ibq_refl, sbq_refl, ABooks.beq_refl, lsb_refl APeriod.beq_refl, lsb_refl ALoan.beq_refl, lsb_refl AOrder.beq_refl, lsb_refl AMandate.beq_refl, lsb_refl ADebit.beq_refl, lsb_refl AMessage.beq_refl, lsb_refl AStatement.beq_refl, lsb_refl AUser.beq_refl, lsb_refl ARequest.beq_refl, lsb_refl AMark.beq_refl, ARun.beq_refl, ANight.beq_refl, Bool.and_true]
def ATask.beq (x y : ATask) : Bool := ibq x.Stage y.Stage && ibq x.Shard y.Shard
theorem ATask.beq_refl (x : ATask) : ATask.beq x x = true := by
 simp only [ATask.beq, ibq_refl, Bool.and_true]
end Go.Sim
end
section
open Go.Sim
attribute [local simp ↓] kC_skip kC_ret kC_exit kC_seq kC_block kC_reg kC_cond kC_condc sqK blK lpK kO_nil kO_O kO_E kO_OG kO_EG grd_b grd_t tst_b brn_true brn_false brn_not chk_T b_mov b_pick b_alloc b_box b_load b_store b_bin b_un b_eqv b_faddr b_field b_iaddr b_sl b_len b_app b_call b_call1 b_callR b_ext bo_some bo_none bo2_some bo2_none bo_iaddr bo_addS bo_quo bo_rem bo_bnd bo_bnd0 ld_q0 ld_qw ld_p subP0 subPw bo_moveP bo_moveQ bo_lenl bo_lens bo_lenr bo_add bo_sub bo_mul bo_eql bo_neq bo_lss bo_leq bo_gtr bo_geq bo_neg bo_not bo_eqS bo_neS grd_nb b_slS slSK_s extK_t ownL_l fin_ret fin_norm bo_res0 bo_rest bo_resc st_p stK_box b_callv callvK_f0 callvK_f1 mkf_b subPs ld_qs kC_regS0 kC_regS1 kC_regS2 kC_regS3 kC_regS4 kC_regS5 b_eqb eqbK_b
attribute [local simp] K_refl obj_0 obj_s get_c get_n drop_c drop_n set_c set_n fix_c fix_n rd IOp.adds nadds gh nid rgK rdS ghosts_c ghosts_n packed1 packed2 purT_b purT_i purT_s purT_a purT_lt purT_lf K_ss K_ns K_sn plains_n plains_c env_val env_ref purs_n purs_d put_0 put_s
section
namespace Go.Sim
set_option maxRecDepth 10000
end Go.Sim
end
section
namespace Go.Sim
set_option maxRecDepth 10000
end Go.Sim
end
section
namespace Go.Sim
set_option maxRecDepth 10000
theorem lp97_0 (T : Tab) (x y : ABooks) (z : List (AEntry × AEntry)) (hx : x.Journal.l = z.map Prod.fst) (hy : y.Journal.l = z.map Prod.snd) (hv : ∀ p ∈ z, T.val 9 [AEntry.dv p.1, AEntry.dv p.2] = some (.d (.b (AEntry.beq p.1 p.2)), false)) (hn : z.length ≤ maxLen) {k : KC (PV × Bool)} {r : Option (PV × Bool)} {fr : Fr} {H : Heap} (hr : RetF 4 k r) (h0 : gc [2, 3, 5] 0 ⟨fr, H⟩ = ⟨[(5, .d (I 0)), (3, .p 0 0 0), (2, .p 1 0 0)], [some (.box (K1 22) (.d y.dv)), some (.box (K1 22) (.d x.dv))]⟩) :
  kC T.env 0 fr H (.h (.loop [2, 3, 5] L97_0, k)) = brn (z.all fun p => AEntry.beq p.1 p.2) (.h (k (.exit 0) [(51, .d (.b false)), (5, .d (I z.length)), (3, .p 0 0 0), (2, .p 1 0 0)] [some (.box (K1 22) (.d y.dv)), some (.box (K1 22) (.d x.dv))], r)) := by
 have hm := mxl
 rw [loop_rounds z (fun i _ => ⟨[(5, .d (I i)), (3, .p 0 0 0), (2, .p 1 0 0)], [some (.box (K1 22) (.d y.dv)), some (.box (K1 22) (.d x.dv))]⟩) (fun _ _ => True) (fun i _ p c => if AEntry.beq p.1 p.2 = true then c () else r) (fun _ => k (.exit 0) [(51, .d (.b false)), (5, .d (I z.length)), (3, .p 0 0 0), (2, .p 1 0 0)] [some (.box (K1 22) (.d y.dv)), some (.box (K1 22) (.d x.dv))]) ?_ ?_ h0 trivial]
 ·rw [rounds_all (fun p => AEntry.beq p.1 p.2) r]
  ·cases z.all fun p => AEntry.beq p.1 p.2 <;> rfl
  ·exact fun _ _ _ _ => rfl
 ·intro B _ _ _
  simp [L97_0, hx]
 ·intro B _ i _ hi _ c hc
  have h1 : (i : Int) < z.length := by omega
  have h3 := wr1 (i := i) (by omega)
  have he := hv z[i] (List.getElem_mem hi)
  simp [L97_0, h1, hi, he, hx, hy]
  repeat' (refine brn_split (fun h => ?_) (fun h => ?_) <;> (try simp at h) <;> (try simp [h, h3]))
  all_goals first
   | exact hr _ _ (by simp [Fr.get]) (by simp [ghosts, gh])
   | exact hc () _ _ trivial (by simp [gc, Fr.keep, reach, frRefs, heapRefs, PV.refs, place, gcH, orefs, Obj.refs, PV.ren, Obj.ren, Heap.obj, Fr.ren, gh, List.idxOf?_cons])
theorem lp97_1 (T : Tab) (x y : ABooks) (z : List (AHold × AHold)) (hx : x.Holds.l = z.map Prod.fst) (hy : y.Holds.l = z.map Prod.snd) (hn : z.length ≤ maxLen) {k : KC (PV × Bool)} {r : Option (PV × Bool)} {fr : Fr} {H : Heap} (hr : RetF 4 k r) (h0 : gc [2, 3, 6] 0 ⟨fr, H⟩ = ⟨[(6, .d (I 0)), (3, .p 0 0 0), (2, .p 1 0 0)], [some (.box (K1 22) (.d y.dv)), some (.box (K1 22) (.d x.dv))]⟩) :
  kC T.env 0 fr H (.h (.loop [2, 3, 6] L97_1, k)) = brn (z.all fun p => AHold.beq p.1 p.2) (.h (k (.exit 2) [(70, .d (.b false)), (6, .d (I z.length)), (3, .p 0 0 0), (2, .p 1 0 0)] [some (.box (K1 22) (.d y.dv)), some (.box (K1 22) (.d x.dv))], r)) := by
 have hm := mxl
 rw [loop_rounds z (fun i _ => ⟨[(6, .d (I i)), (3, .p 0 0 0), (2, .p 1 0 0)], [some (.box (K1 22) (.d y.dv)), some (.box (K1 22) (.d x.dv))]⟩) (fun _ _ => True) (fun i _ p c => if AHold.beq p.1 p.2 = true then c () else r) (fun _ => k (.exit 2) [(70, .d (.b false)), (6, .d (I z.length)), (3, .p 0 0 0), (2, .p 1 0 0)] [some (.box (K1 22) (.d y.dv)), some (.box (K1 22) (.d x.dv))]) ?_ ?_ h0 trivial]
 ·rw [rounds_all (fun p => AHold.beq p.1 p.2) r]
  ·cases z.all fun p => AHold.beq p.1 p.2 <;> rfl
  ·exact fun _ _ _ _ => rfl
 ·intro B _ _ _
  simp [L97_1, hx]
 ·intro B _ i _ hi _ c hc
  have h1 : (i : Int) < z.length := by omega
  have h3 := wr1 (i := i) (by omega)
  have he : eqA [1, 1, 1, 1, 1, 3] (.d (AHold.dv z[i].1)) (.d (AHold.dv z[i].2)) = some (AHold.beq z[i].1 z[i].2) := by
   simp [eqA, eqL, eqK, AHold.dv, AHold.beq, ibq, sbq, Bool.and_assoc]
  simp [L97_1, h1, hi, he, hx, hy]
  repeat' (refine brn_split (fun h => ?_) (fun h => ?_) <;> (try simp at h) <;> (try simp [h, h3]))
  all_goals first
   | exact hr _ _ (by simp [Fr.get]) (by simp [ghosts, gh])
   | exact hc () _ _ trivial (by simp [gc, Fr.keep, reach, frRefs, heapRefs, PV.refs, place, gcH, orefs, Obj.refs, PV.ren, Obj.ren, Heap.obj, Fr.ren, gh, List.idxOf?_cons])
theorem lp97_2 (T : Tab) (x y : ABooks) (z : List (ABlock × ABlock)) (hx : x.Blocks.l = z.map Prod.fst) (hy : y.Blocks.l = z.map Prod.snd) (hn : z.length ≤ maxLen) {k : KC (PV × Bool)} {r : Option (PV × Bool)} {fr : Fr} {H : Heap} (hr : RetF 4 k r) (h0 : gc [2, 3, 7] 0 ⟨fr, H⟩ = ⟨[(7, .d (I 0)), (3, .p 0 0 0), (2, .p 1 0 0)], [some (.box (K1 22) (.d y.dv)), some (.box (K1 22) (.d x.dv))]⟩) :
  kC T.env 0 fr H (.h (.loop [2, 3, 7] L97_2, k)) = brn (z.all fun p => ABlock.beq p.1 p.2) (.h (k (.exit 4) [(88, .d (.b false)), (7, .d (I z.length)), (3, .p 0 0 0), (2, .p 1 0 0)] [some (.box (K1 22) (.d y.dv)), some (.box (K1 22) (.d x.dv))], r)) := by
 have hm := mxl
 rw [loop_rounds z (fun i _ => ⟨[(7, .d (I i)), (3, .p 0 0 0), (2, .p 1 0 0)], [some (.box (K1 22) (.d y.dv)), some (.box (K1 22) (.d x.dv))]⟩) (fun _ _ => True) (fun i _ p c => if ABlock.beq p.1 p.2 = true then c () else r) (fun _ => k (.exit 4) [(88, .d (.b false)), (7, .d (I z.length)), (3, .p 0 0 0), (2, .p 1 0 0)] [some (.box (K1 22) (.d y.dv)), some (.box (K1 22) (.d x.dv))]) ?_ ?_ h0 trivial]
 ·rw [rounds_all (fun p => ABlock.beq p.1 p.2) r]
  ·cases z.all fun p => ABlock.beq p.1 p.2 <;> rfl
  ·exact fun _ _ _ _ => rfl
 ·intro B _ _ _
  simp [L97_2, hx]
 ·intro B _ i _ hi _ c hc
  have h1 : (i : Int) < z.length := by omega
  have h3 := wr1 (i := i) (by omega)
  have he : eqA [1, 1, 1, 1, 1, 1, 3] (.d (ABlock.dv z[i].1)) (.d (ABlock.dv z[i].2)) = some (ABlock.beq z[i].1 z[i].2) := by
   simp [eqA, eqL, eqK, ABlock.dv, ABlock.beq, ibq, sbq, Bool.and_assoc]
  simp [L97_2, h1, hi, he, hx, hy]
  repeat' (refine brn_split (fun h => ?_) (fun h => ?_) <;> (try simp at h) <;> (try simp [h, h3]))
  all_goals first
   | exact hr _ _ (by simp [Fr.get]) (by simp [ghosts, gh])
   | exact hc () _ _ trivial (by simp [gc, Fr.keep, reach, frRefs, heapRefs, PV.refs, place, gcH, orefs, Obj.refs, PV.ren, Obj.ren, Heap.obj, Fr.ren, gh, List.idxOf?_cons])
theorem lp139_0 (T : Tab) (x y : ABooks) (z : List (ACurrency × ACurrency)) (hx : x.Currencies.l = z.map Prod.fst) (hy : y.Currencies.l = z.map Prod.snd) (hn : z.length ≤ maxLen) {k : KC (PV × Bool)} {r : Option (PV × Bool)} {fr : Fr} {H : Heap} (hr : RetF 4 k r) (h0 : gc [2, 3, 5] 0 ⟨fr, H⟩ = ⟨[(5, .d (I 0)), (3, .p 0 0 0), (2, .p 1 0 0)], [some (.box (K1 22) (.d y.dv)), some (.box (K1 22) (.d x.dv))]⟩) :
  kC T.env 0 fr H (.h (.loop [2, 3, 5] L139_0, k)) = brn (z.all fun p => ACurrency.beq p.1 p.2) (.h (k (.exit 0) [(52, .d (.b false)), (5, .d (I z.length)), (3, .p 0 0 0), (2, .p 1 0 0)] [some (.box (K1 22) (.d y.dv)), some (.box (K1 22) (.d x.dv))], r)) := by
 have hm := mxl
 rw [loop_rounds z (fun i _ => ⟨[(5, .d (I i)), (3, .p 0 0 0), (2, .p 1 0 0)], [some (.box (K1 22) (.d y.dv)), some (.box (K1 22) (.d x.dv))]⟩) (fun _ _ => True) (fun i _ p c => if ACurrency.beq p.1 p.2 = true then c () else r) (fun _ => k (.exit 0) [(52, .d (.b false)), (5, .d (I z.length)), (3, .p 0 0 0), (2, .p 1 0 0)] [some (.box (K1 22) (.d y.dv)), some (.box (K1 22) (.d x.dv))]) ?_ ?_ h0 trivial]
 ·rw [rounds_all (fun p => ACurrency.beq p.1 p.2) r]
  ·cases z.all fun p => ACurrency.beq p.1 p.2 <;> rfl
  ·exact fun _ _ _ _ => rfl
 ·intro B _ _ _
  simp [L139_0, hx]
 ·intro B _ i _ hi _ c hc
  have h1 : (i : Int) < z.length := by omega
  have h3 := wr1 (i := i) (by omega)
  have he : eqA [3, 1] (.d (ACurrency.dv z[i].1)) (.d (ACurrency.dv z[i].2)) = some (ACurrency.beq z[i].1 z[i].2) := by
   simp [eqA, eqL, eqK, ACurrency.dv, ACurrency.beq, ibq, sbq]
  simp [L139_0, h1, hi, he, hx, hy]
  repeat' (refine brn_split (fun h => ?_) (fun h => ?_) <;> (try simp at h) <;> (try simp [h, h3]))
  all_goals first
   | exact hr _ _ (by simp [Fr.get]) (by simp [ghosts, gh])
   | exact hc () _ _ trivial (by simp [gc, Fr.keep, reach, frRefs, heapRefs, PV.refs, place, gcH, orefs, Obj.refs, PV.ren, Obj.ren, Heap.obj, Fr.ren, gh, List.idxOf?_cons])
theorem lp139_1 (T : Tab) (x y : ABooks) (z : List (AGl × AGl)) (hx : x.Chart.l = z.map Prod.fst) (hy : y.Chart.l = z.map Prod.snd) (hn : z.length ≤ maxLen) {k : KC (PV × Bool)} {r : Option (PV × Bool)} {fr : Fr} {H : Heap} (hr : RetF 4 k r) (h0 : gc [2, 3, 6] 0 ⟨fr, H⟩ = ⟨[(6, .d (I 0)), (3, .p 0 0 0), (2, .p 1 0 0)], [some (.box (K1 22) (.d y.dv)), some (.box (K1 22) (.d x.dv))]⟩) :
  kC T.env 0 fr H (.h (.loop [2, 3, 6] L139_1, k)) = brn (z.all fun p => AGl.beq p.1 p.2) (.h (k (.exit 2) [(70, .d (.b false)), (6, .d (I z.length)), (3, .p 0 0 0), (2, .p 1 0 0)] [some (.box (K1 22) (.d y.dv)), some (.box (K1 22) (.d x.dv))], r)) := by
 have hm := mxl
 rw [loop_rounds z (fun i _ => ⟨[(6, .d (I i)), (3, .p 0 0 0), (2, .p 1 0 0)], [some (.box (K1 22) (.d y.dv)), some (.box (K1 22) (.d x.dv))]⟩) (fun _ _ => True) (fun i _ p c => if AGl.beq p.1 p.2 = true then c () else r) (fun _ => k (.exit 2) [(70, .d (.b false)), (6, .d (I z.length)), (3, .p 0 0 0), (2, .p 1 0 0)] [some (.box (K1 22) (.d y.dv)), some (.box (K1 22) (.d x.dv))]) ?_ ?_ h0 trivial]
 ·rw [rounds_all (fun p => AGl.beq p.1 p.2) r]
  ·cases z.all fun p => AGl.beq p.1 p.2 <;> rfl
  ·exact fun _ _ _ _ => rfl
 ·intro B _ _ _
  simp [L139_1, hx]
 ·intro B _ i _ hi _ c hc
  have h1 : (i : Int) < z.length := by omega
  have h3 := wr1 (i := i) (by omega)
  have he : eqA [1, 1, 1, 3] (.d (AGl.dv z[i].1)) (.d (AGl.dv z[i].2)) = some (AGl.beq z[i].1 z[i].2) := by
   simp [eqA, eqL, eqK, AGl.dv, AGl.beq, ibq, sbq, Bool.and_assoc]
  simp [L139_1, h1, hi, he, hx, hy]
  repeat' (refine brn_split (fun h => ?_) (fun h => ?_) <;> (try simp at h) <;> (try simp [h, h3]))
  all_goals first
   | exact hr _ _ (by simp [Fr.get]) (by simp [ghosts, gh])
   | exact hc () _ _ trivial (by simp [gc, Fr.keep, reach, frRefs, heapRefs, PV.refs, place, gcH, orefs, Obj.refs, PV.ren, Obj.ren, Heap.obj, Fr.ren, gh, List.idxOf?_cons])
theorem lp139_2 (T : Tab) (x y : ABooks) (z : List (AProduct × AProduct)) (hx : x.Products.l = z.map Prod.fst) (hy : y.Products.l = z.map Prod.snd) (hv : ∀ p ∈ z, T.val 224 [AProduct.dv p.1, AProduct.dv p.2] = some (.d (.b (AProduct.beq p.1 p.2)), false)) (hn : z.length ≤ maxLen) {k : KC (PV × Bool)} {r : Option (PV × Bool)} {fr : Fr} {H : Heap} (hr : RetF 4 k r) (h0 : gc [2, 3, 7] 0 ⟨fr, H⟩ = ⟨[(7, .d (I 0)), (3, .p 0 0 0), (2, .p 1 0 0)], [some (.box (K1 22) (.d y.dv)), some (.box (K1 22) (.d x.dv))]⟩) :
  kC T.env 0 fr H (.h (.loop [2, 3, 7] L139_2, k)) = brn (z.all fun p => AProduct.beq p.1 p.2) (.h (k (.exit 4) [(88, .d (.b false)), (7, .d (I z.length)), (3, .p 0 0 0), (2, .p 1 0 0)] [some (.box (K1 22) (.d y.dv)), some (.box (K1 22) (.d x.dv))], r)) := by
 have hm := mxl
 rw [loop_rounds z (fun i _ => ⟨[(7, .d (I i)), (3, .p 0 0 0), (2, .p 1 0 0)], [some (.box (K1 22) (.d y.dv)), some (.box (K1 22) (.d x.dv))]⟩) (fun _ _ => True) (fun i _ p c => if AProduct.beq p.1 p.2 = true then c () else r) (fun _ => k (.exit 4) [(88, .d (.b false)), (7, .d (I z.length)), (3, .p 0 0 0), (2, .p 1 0 0)] [some (.box (K1 22) (.d y.dv)), some (.box (K1 22) (.d x.dv))]) ?_ ?_ h0 trivial]
 ·rw [rounds_all (fun p => AProduct.beq p.1 p.2) r]
  ·cases z.all fun p => AProduct.beq p.1 p.2 <;> rfl
  ·exact fun _ _ _ _ => rfl
 ·intro B _ _ _
  simp [L139_2, hx]
 ·intro B _ i _ hi _ c hc
  have h1 : (i : Int) < z.length := by omega
  have h3 := wr1 (i := i) (by omega)
  have he := hv z[i] (List.getElem_mem hi)
  simp [L139_2, h1, hi, he, hx, hy]
  repeat' (refine brn_split (fun h => ?_) (fun h => ?_) <;> (try simp at h) <;> (try simp [h, h3]))
  all_goals first
   | exact hr _ _ (by simp [Fr.get]) (by simp [ghosts, gh])
   | exact hc () _ _ trivial (by simp [gc, Fr.keep, reach, frRefs, heapRefs, PV.refs, place, gcH, orefs, Obj.refs, PV.ren, Obj.ren, Heap.obj, Fr.ren, gh, List.idxOf?_cons])
theorem lp140_0 (T : Tab) (z : List (AAccount × AAccount)) (s t : Bool) (hn : z.length ≤ maxLen) {k : KC (PV × Bool)} {r : Option (PV × Bool)} {fr : Fr} {H : Heap} (hr : RetF 4 k r) (h0 : gc [0, 1, 5] 0 ⟨fr, H⟩ = ⟨[(5, .d (I 0)), (1, .d (.l (K1 7) ((z.map Prod.snd).map AAccount.dv) t)), (0, .d (.l (K1 7) ((z.map Prod.fst).map AAccount.dv) s))], []⟩) :
  kC T.env 0 fr H (.h (.loop [0, 1, 5] L140_0, k)) = brn (z.all fun p => AAccount.beq p.1 p.2) (.h (k (.exit 0) [(14, .d (.b false)), (5, .d (I z.length)), (1, .d (.l (K1 7) ((z.map Prod.snd).map AAccount.dv) t)), (0, .d (.l (K1 7) ((z.map Prod.fst).map AAccount.dv) s))] [], r)) := by
 have hm := mxl
 rw [loop_rounds z (fun i _ => ⟨[(5, .d (I i)), (1, .d (.l (K1 7) ((z.map Prod.snd).map AAccount.dv) t)), (0, .d (.l (K1 7) ((z.map Prod.fst).map AAccount.dv) s))], []⟩) (fun _ _ => True) (fun i _ p c => if AAccount.beq p.1 p.2 = true then c () else r) (fun _ => k (.exit 0) [(14, .d (.b false)), (5, .d (I z.length)), (1, .d (.l (K1 7) ((z.map Prod.snd).map AAccount.dv) t)), (0, .d (.l (K1 7) ((z.map Prod.fst).map AAccount.dv) s))] []) ?_ ?_ h0 trivial]
 ·rw [rounds_all (fun p => AAccount.beq p.1 p.2) r]
  ·cases z.all fun p => AAccount.beq p.1 p.2 <;> rfl
  ·exact fun _ _ _ _ => rfl
 ·intro B _ _ _
  simp [L140_0]
 ·intro B _ i _ hi _ c hc
  have h1 : (i : Int) < z.length := by omega
  have h3 := wr1 (i := i) (by omega)
  have he : eqA [1, 1, 1, 1, 3, 3, 3] (.d (AAccount.dv z[i].1)) (.d (AAccount.dv z[i].2)) = some (AAccount.beq z[i].1 z[i].2) := by
   simp [eqA, eqL, eqK, AAccount.dv, AAccount.beq, ibq, sbq, Bool.and_assoc]
  simp [L140_0, h1, hi, he]
  repeat' (refine brn_split (fun h => ?_) (fun h => ?_) <;> (try simp at h) <;> (try simp [h, h3]))
  all_goals first
   | exact hr _ _ (by simp [Fr.get]) (by simp [ghosts, gh])
   | exact hc () _ _ trivial (by simp [gc, Fr.keep, reach, frRefs, heapRefs, PV.refs, gcH, PV.ren, Obj.ren, Heap.obj, Fr.ren, gh])
theorem lp300_0 (T : Tab) (z : List (Int × Int)) (s t : Bool) (hn : z.length ≤ maxLen) {k : KC (PV × Bool)} {r : Option (PV × Bool)} {fr : Fr} {H : Heap} (hr : RetF 4 k r) (h0 : gc [0, 1, 5] 0 ⟨fr, H⟩ = ⟨[(5, .d (I 0)), (1, .d (.l K0 ((z.map Prod.snd).map I) t)), (0, .d (.l K0 ((z.map Prod.fst).map I) s))], []⟩) :
  kC T.env 0 fr H (.h (.loop [0, 1, 5] L300_0, k)) = brn (z.all fun p => ibq p.1 p.2) (.h (k (.exit 0) [(14, .d (.b false)), (5, .d (I z.length)), (1, .d (.l K0 ((z.map Prod.snd).map I) t)), (0, .d (.l K0 ((z.map Prod.fst).map I) s))] [], r)) := by
 have hm := mxl
 rw [loop_rounds z (fun i _ => ⟨[(5, .d (I i)), (1, .d (.l K0 ((z.map Prod.snd).map I) t)), (0, .d (.l K0 ((z.map Prod.fst).map I) s))], []⟩) (fun _ _ => True) (fun i _ p c => if ibq p.1 p.2 = true then c () else r) (fun _ => k (.exit 0) [(14, .d (.b false)), (5, .d (I z.length)), (1, .d (.l K0 ((z.map Prod.snd).map I) t)), (0, .d (.l K0 ((z.map Prod.fst).map I) s))] []) ?_ ?_ h0 trivial]
 ·rw [rounds_all (fun p => ibq p.1 p.2) r]
  ·cases z.all fun p => ibq p.1 p.2 <;> rfl
  ·exact fun _ _ _ _ => rfl
 ·intro B _ _ _
  simp [L300_0]
 ·intro B _ i _ hi _ c hc
  have h1 : (i : Int) < z.length := by omega
  have h3 := wr1 (i := i) (by omega)
  simp [L300_0, h1, hi, ibq]
  repeat' (refine brn_split (fun h => ?_) (fun h => ?_) <;> (try simp at h) <;> (try simp [h, h3]))
  all_goals first
   | exact hr _ _ (by simp [Fr.get]) (by simp [ghosts, gh])
   | exact hc () _ _ trivial (by simp [gc, Fr.keep, reach, frRefs, heapRefs, PV.refs, gcH, PV.ren, Obj.ren, Heap.obj, Fr.ren, gh])
theorem lp301_0 (T : Tab) (x y : AInterest) (z : List (ATier × ATier)) (hx : x.Tiers.l = z.map Prod.fst) (hy : y.Tiers.l = z.map Prod.snd) (hn : z.length ≤ maxLen) {k : KC (PV × Bool)} {r : Option (PV × Bool)} {fr : Fr} {H : Heap} (hr : RetF 4 k r) (h0 : gc [2, 3, 5] 0 ⟨fr, H⟩ = ⟨[(5, .d (I 0)), (3, .p 0 0 0), (2, .p 1 0 0)], [some (.box (K1 5) (.d y.dv)), some (.box (K1 5) (.d x.dv))]⟩) :
  kC T.env 0 fr H (.h (.loop [2, 3, 5] L301_0, k)) = brn (z.all fun p => ATier.beq p.1 p.2) (.h (k (.exit 0) [(45, .d (.b false)), (5, .d (I z.length)), (3, .p 0 0 0), (2, .p 1 0 0)] [some (.box (K1 5) (.d y.dv)), some (.box (K1 5) (.d x.dv))], r)) := by
 have hm := mxl
 rw [loop_rounds z (fun i _ => ⟨[(5, .d (I i)), (3, .p 0 0 0), (2, .p 1 0 0)], [some (.box (K1 5) (.d y.dv)), some (.box (K1 5) (.d x.dv))]⟩) (fun _ _ => True) (fun i _ p c => if ATier.beq p.1 p.2 = true then c () else r) (fun _ => k (.exit 0) [(45, .d (.b false)), (5, .d (I z.length)), (3, .p 0 0 0), (2, .p 1 0 0)] [some (.box (K1 5) (.d y.dv)), some (.box (K1 5) (.d x.dv))]) ?_ ?_ h0 trivial]
 ·rw [rounds_all (fun p => ATier.beq p.1 p.2) r]
  ·cases z.all fun p => ATier.beq p.1 p.2 <;> rfl
  ·exact fun _ _ _ _ => rfl
 ·intro B _ _ _
  simp [L301_0, hx]
 ·intro B _ i _ hi _ c hc
  have h1 : (i : Int) < z.length := by omega
  have h3 := wr1 (i := i) (by omega)
  have he : eqA [1, 1] (.d (ATier.dv z[i].1)) (.d (ATier.dv z[i].2)) = some (ATier.beq z[i].1 z[i].2) := by
   simp [eqA, eqL, eqK, ATier.dv, ATier.beq, ibq]
  simp [L301_0, h1, hi, he, hx, hy]
  repeat' (refine brn_split (fun h => ?_) (fun h => ?_) <;> (try simp at h) <;> (try simp [h, h3]))
  all_goals first
   | exact hr _ _ (by simp [Fr.get]) (by simp [ghosts, gh])
   | exact hc () _ _ trivial (by simp [gc, Fr.keep, reach, frRefs, heapRefs, PV.refs, place, gcH, orefs, Obj.refs, PV.ren, Obj.ren, Heap.obj, Fr.ren, gh, List.idxOf?_cons])
theorem lp14_0 (T : Tab) (z : List (ALeg × ALeg)) (s t : Bool) (hn : z.length ≤ maxLen) {k : KC (PV × Bool)} {r : Option (PV × Bool)} {fr : Fr} {H : Heap} (hr : RetF 4 k r) (h0 : gc [0, 1, 5] 0 ⟨fr, H⟩ = ⟨[(5, .d (I 0)), (1, .d (.l (K1 3) ((z.map Prod.snd).map ALeg.dv) t)), (0, .d (.l (K1 3) ((z.map Prod.fst).map ALeg.dv) s))], []⟩) :
  kC T.env 0 fr H (.h (.loop [0, 1, 5] L14_0, k)) = brn (z.all fun p => ALeg.beq p.1 p.2) (.h (k (.exit 0) [(14, .d (.b false)), (5, .d (I z.length)), (1, .d (.l (K1 3) ((z.map Prod.snd).map ALeg.dv) t)), (0, .d (.l (K1 3) ((z.map Prod.fst).map ALeg.dv) s))] [], r)) := by
 have hm := mxl
 rw [loop_rounds z (fun i _ => ⟨[(5, .d (I i)), (1, .d (.l (K1 3) ((z.map Prod.snd).map ALeg.dv) t)), (0, .d (.l (K1 3) ((z.map Prod.fst).map ALeg.dv) s))], []⟩) (fun _ _ => True) (fun i _ p c => if ALeg.beq p.1 p.2 = true then c () else r) (fun _ => k (.exit 0) [(14, .d (.b false)), (5, .d (I z.length)), (1, .d (.l (K1 3) ((z.map Prod.snd).map ALeg.dv) t)), (0, .d (.l (K1 3) ((z.map Prod.fst).map ALeg.dv) s))] []) ?_ ?_ h0 trivial]
 ·rw [rounds_all (fun p => ALeg.beq p.1 p.2) r]
  ·cases z.all fun p => ALeg.beq p.1 p.2 <;> rfl
  ·exact fun _ _ _ _ => rfl
 ·intro B _ _ _
  simp [L14_0]
 ·intro B _ i _ hi _ c hc
  have h1 : (i : Int) < z.length := by omega
  have h3 := wr1 (i := i) (by omega)
  have he : eqA [1, 1, 3] (.d (ALeg.dv z[i].1)) (.d (ALeg.dv z[i].2)) = some (ALeg.beq z[i].1 z[i].2) := by
   simp [eqA, eqL, eqK, ALeg.dv, ALeg.beq, ibq, sbq, Bool.and_assoc]
  simp [L14_0, h1, hi, he]
  repeat' (refine brn_split (fun h => ?_) (fun h => ?_) <;> (try simp at h) <;> (try simp [h, h3]))
  all_goals first
   | exact hr _ _ (by simp [Fr.get]) (by simp [ghosts, gh])
   | exact hc () _ _ trivial (by simp [gc, Fr.keep, reach, frRefs, heapRefs, PV.refs, gcH, PV.ren, Obj.ren, Heap.obj, Fr.ren, gh])
end Go.Sim
end
section
namespace Go.Sim
set_option maxRecDepth 10000
theorem val14 (T : Tab) (hF : T.F 14 = some F14) (x y : List ALeg) (s t : Bool) (hn : x.length ≤ maxLen) : T.val 14 [.l (K1 3) (x.map ALeg.dv) s, .l (K1 3) (y.map ALeg.dv) t] = some (.d (.b (lsb ALeg.beq x y)), false) := by
 rw [val_k T hF rfl]
 by_cases hl : x.length = y.length
 ·obtain ⟨z, rfl, rfl⟩ := zip_of x y hl
  rw [lsb_zip]
  have hz : z.length ≤ maxLen := by simpa using hn
  have lp := fun k fr H => @lp14_0 T z s t hz k (some (.d (.b false), false)) fr H
  simp [F14, Fr.ofArgs]
  rw [lp]
  ·refine brn_split (fun h => ?_) (fun h => ?_)
   ·simp [h]
   ·rw [h]
  ·simp [RetF_bl, RetF_sq, RetF_fin]
  ·simp [gc, Fr.keep, reach, frRefs, heapRefs, PV.refs, gcH, PV.ren, Obj.ren, Heap.obj, Fr.ren, gh]
 ·rw [lsb_len _ _ hl]
  have hl' : ((x.length : Int) == (y.length : Int)) = false := by simp; omega
  simp [F14, Fr.ofArgs, hl', bne]
theorem val140 (T : Tab) (hF : T.F 140 = some F140) (x y : List AAccount) (s t : Bool) (hn : x.length ≤ maxLen) : T.val 140 [.l (K1 7) (x.map AAccount.dv) s, .l (K1 7) (y.map AAccount.dv) t] = some (.d (.b (lsb AAccount.beq x y)), false) := by
 rw [val_k T hF rfl]
 by_cases hl : x.length = y.length
 ·obtain ⟨z, rfl, rfl⟩ := zip_of x y hl
  rw [lsb_zip]
  have hz : z.length ≤ maxLen := by simpa using hn
  have lp := fun k fr H => @lp140_0 T z s t hz k (some (.d (.b false), false)) fr H
  simp [F140, Fr.ofArgs]
  rw [lp]
  ·refine brn_split (fun h => ?_) (fun h => ?_)
   ·simp [h]
   ·rw [h]
  ·simp [RetF_bl, RetF_sq, RetF_fin]
  ·simp [gc, Fr.keep, reach, frRefs, heapRefs, PV.refs, gcH, PV.ren, Obj.ren, Heap.obj, Fr.ren, gh]
 ·rw [lsb_len _ _ hl]
  have hl' : ((x.length : Int) == (y.length : Int)) = false := by simp; omega
  simp [F140, Fr.ofArgs, hl', bne]
theorem val300 (T : Tab) (hF : T.F 300 = some F300) (x y : List Int) (s t : Bool) (hn : x.length ≤ maxLen) : T.val 300 [.l K0 (x.map I) s, .l K0 (y.map I) t] = some (.d (.b (lsb ibq x y)), false) := by
 rw [val_k T hF rfl]
 by_cases hl : x.length = y.length
 ·obtain ⟨z, rfl, rfl⟩ := zip_of x y hl
  rw [lsb_zip]
  have hz : z.length ≤ maxLen := by simpa using hn
  have lp := fun k fr H => @lp300_0 T z s t hz k (some (.d (.b false), false)) fr H
  simp [F300, Fr.ofArgs]
  rw [lp]
  ·refine brn_split (fun h => ?_) (fun h => ?_)
   ·simp [h]
   ·rw [h]
  ·simp [RetF_bl, RetF_sq, RetF_fin]
  ·simp [gc, Fr.keep, reach, frRefs, heapRefs, PV.refs, gcH, PV.ren, Obj.ren, Heap.obj, Fr.ren, gh]
 ·rw [lsb_len _ _ hl]
  have hl' : ((x.length : Int) == (y.length : Int)) = false := by simp; omega
  simp [F300, Fr.ofArgs, hl', bne]
end Go.Sim
end
end
section
namespace Go.Sim
def tabC : PT :=
 (.bin 223 F223 (.bin 97 F97 (.bin 14 F14 (.bin 9 F9 .nil .nil) .nil) (.bin 140 F140 (.bin 139 F139 .nil .nil) .nil)) (.bin 301 F301 (.bin 300 F300 (.bin 224 F224 .nil .nil) .nil) (.bin 303 F303 (.bin 302 F302 .nil .nil) .nil)))
end Go.Sim
end
section
open Go.Sim
attribute [local simp ↓] kC_skip kC_ret kC_exit kC_seq kC_block kC_reg kC_cond kC_condc sqK blK lpK kO_nil kO_O kO_E kO_OG kO_EG grd_b grd_t tst_b brn_true brn_false brn_not chk_T b_mov b_pick b_alloc b_box b_load b_store b_bin b_un b_eqv b_faddr b_field b_iaddr b_sl b_len b_app b_call b_call1 b_callR b_ext bo_some bo_none bo2_some bo2_none bo_iaddr bo_addS bo_quo bo_rem bo_bnd bo_bnd0 ld_q0 ld_qw ld_p subP0 subPw bo_moveP bo_moveQ bo_lenl bo_lens bo_lenr bo_add bo_sub bo_mul bo_eql bo_neq bo_lss bo_leq bo_gtr bo_geq bo_neg bo_not bo_eqS bo_neS grd_nb b_slS slSK_s extK_t ownL_l fin_ret fin_norm bo_res0 bo_rest bo_resc st_p stK_box b_callv callvK_f0 callvK_f1 mkf_b subPs ld_qs kC_regS0 kC_regS1 kC_regS2 kC_regS3 kC_regS4 kC_regS5 b_eqb eqbK_b
attribute [local simp] K_refl obj_0 obj_s get_c get_n drop_c drop_n set_c set_n fix_c fix_n rd IOp.adds nadds gh nid rgK rdS ghosts_c ghosts_n packed1 packed2 purT_b purT_i purT_s purT_a purT_lt purT_lf K_ss K_ns K_sn plains_n plains_c env_val env_ref purs_n purs_d put_0 put_s
section
namespace Go.Sim
set_option maxRecDepth 10000
set_option maxHeartbeats 4000000
theorem ax_of {e : DV} (h : XE e) : ∃ a : AExpr, e = a.dv ∧ a.ok := by
 cases h with
 | mk o n s a h1 h2 h3 h4 =>
  cases h4 with
  | mk es h5 h6 h7 => exact ⟨⟨o, n, s, ⟨es, false⟩⟩, rfl, h1, h2, h3, .mk es h5 h6 h7⟩
theorem axs_of {es : List DV} {t : Bool} (h : XL (.l (K1 4) es t)) : es.length ≤ maxLen ∧ ∃ l : List AExpr, es = l.map AExpr.dv ∧ ∀ a ∈ l, a.ok := by
 cases h with
 | mk _ h5 h6 => exact ⟨h5, list_of' fun e he => ax_of (h6 e he)⟩
theorem deq_dv (x y : AExpr) : deq x.dv y.dv = AExpr.beq x y := by
 simp only [AExpr.dv, AExpr.beq, deq, deqL, ibq, sbq, decide_true, Bool.true_and, Bool.and_true]
 have h : ∀ a b : Int, decide (a = b) = (a == b) := fun a b => by by_cases h : a = b <;> simp [h]
 rw [h, h, Bool.and_assoc, Bool.and_assoc]
theorem deqL_dv : ∀ l m : List AExpr, deqL (l.map AExpr.dv) (m.map AExpr.dv) = lsb AExpr.beq l m
 | [], [] => rfl
 | [], _ :: _ => rfl
 | _ :: _, [] => rfl
 | x :: l, y :: m => by simp [deqL, lsb, deq_dv, deqL_dv l m]
theorem arg_lt {x a : AExpr} (h : a.dv ∈ x.Args.l) : SizeOf.sizeOf a.dv < SizeOf.sizeOf x.dv := by
 have h1 := List.sizeOf_lt_of_mem h
 have h2 : SizeOf.sizeOf x.Args.l < SizeOf.sizeOf x.dv := by
  simp only [AExpr.dv, DV.a.sizeOf_spec, List.cons.sizeOf_spec, DV.l.sizeOf_spec]
  omega
 omega
end Go.Sim
end
end
section
namespace Go.Sim
def tabL : PT :=
 (.bin 304 F304 (.bin 231 F231 (.bin 146 F146 (.bin 10 F10 .nil .nil) (.bin 230 F230 .nil .nil)) (.bin 233 F233 (.bin 232 F232 .nil .nil) (.bin 234 F234 .nil .nil))) (.bin 308 F308 (.bin 306 F306 (.bin 305 F305 .nil .nil) (.bin 307 F307 .nil .nil)) (.bin 310 F310 (.bin 309 F309 .nil .nil) (.bin 365 F365 .nil .nil))))
abbrev HL (T : Tab) : Prop := ∀ n F, tabL.get n = some F → T.F n = some F
end Go.Sim
end
section
open Go.Sim
attribute [local simp ↓] kC_skip kC_ret kC_exit kC_seq kC_block kC_reg kC_cond kC_condc sqK blK lpK kO_nil kO_O kO_E kO_OG kO_EG grd_b grd_t tst_b brn_true brn_false brn_not chk_T b_mov b_pick b_alloc b_box b_load b_store b_bin b_un b_eqv b_faddr b_field b_iaddr b_sl b_len b_app b_call b_call1 b_callR b_ext bo_some bo_none bo2_some bo2_none bo_iaddr bo_addS bo_quo bo_rem bo_bnd bo_bnd0 ld_q0 ld_qw ld_p subP0 subPw bo_moveP bo_moveQ bo_lenl bo_lens bo_lenr bo_add bo_sub bo_mul bo_eql bo_neq bo_lss bo_leq bo_gtr bo_geq bo_neg bo_not bo_eqS bo_neS grd_nb b_slS slSK_s extK_t ownL_l fin_ret fin_norm bo_res0 bo_rest bo_resc st_p stK_box b_callv callvK_f0 callvK_f1 mkf_b subPs ld_qs kC_regS0 kC_regS1 kC_regS2 kC_regS3 kC_regS4 kC_regS5 b_eqb eqbK_b b_agg0 b_bsl0 b_bsl1 app_l app_r appE_n appE_r bo_lenR b_mkif mkifK_d b_tas tasK_i b_mm2 bo_mm2
attribute [local simp] K_refl obj_0 obj_s get_c get_n drop_c drop_n set_c set_n fix_c fix_n rd IOp.adds nadds gh nid rgK rdS ghosts_c ghosts_n packed1 packed2 purT_b purT_i purT_s purT_a purT_lt purT_lf K_ss K_ns K_sn plains_n plains_c env_val env_ref purs_n purs_d put_0 put_s fits_i fits_b fits_s fits_l lt0_nat fits_a purT_t pur_dv frz_n purT_r purT_f
section
namespace Go.Sim
set_option maxRecDepth 10000
set_option maxHeartbeats 4000000
structure HX (T : Tab) : Prop where
 c15 : HCl T 15 (K1 3) 32
 c60 : HCl T 60 (K1 2) 16
 c160 : HCl T 160 K0 8
 c225 : HCl T 225 (K1 2) 24
 c226 : HCl T 226 (K1 4) 40
 c227 : HCl T 227 (K1 7) 80
 c228 : HCl T 228 (K1 6) 56
 c229 : HCl T 229 (K1 7) 64
theorem val307 (T : Tab) (hL : HL T) : ∀ (n : Nat) (x : AExpr), SizeOf.sizeOf x.dv ≤ n → x.ok → T.val 307 [x.dv] = some (.d x.dv, false) := by
 intro n
 induction n with
 | zero => intro x hn _; exfalso; have : 0 < SizeOf.sizeOf x.dv := (by rw [AExpr.dv]; simp; omega); omega
 | succ n ih =>
  intro x hn hx
  obtain ⟨_, _, _, hX⟩ := hx
  obtain ⟨h1, l, h2, h3⟩ := axs_of hX
  obtain ⟨o, m, s, a⟩ := x
  obtain ⟨a, t⟩ := a
  simp only at h1 h2 hX
  subst h2
  have ht : t = false := by cases hX; rfl
  subst ht
  have hb : l.length * 56 ≤ 140737488355328 := by cases hX with | mk _ _ _ h => simpa [cap47] using h
  have he := fun H0 hH => ref_each T (f := 365) (hL 365 F365 rfl) (g := 307) (A := AExpr.dv) (l := l) (fun _ _ => rfl) (fun a ha => ⟨false, ih a (by have := List.sizeOf_lt_of_mem (List.mem_map_of_mem (f := AExpr.dv) ha); simp only [AExpr.dv, DV.a.sizeOf_spec, List.cons.sizeOf_spec, DV.l.sizeOf_spec] at hn this ⊢; omega) (h3 a ha)⟩) false (by have : maxLen = 9223372036854775807 := rfl; simpa [this] using h1) hb H0 hH
  rw [val_k T (hL 307 F307 rfl) rfl]
  simp [F307, Fr.ofArgs]
  rw [he _ (ClB.h (by repeat (first | refine clB_sl ?_ | refine clB_ba ?_ ?_ | refine clB_bd ?_ | refine clB_o ?_ | exact clB_n _ | refine rb_set ?_ (by simp) | exact rb_d _ _)))]
  simp [fits_r, size_n, ↓mkP_eq, cells_d, fits_al]
  refine (purT_al (xs := (AExpr.dv ⟨o, m, s, ⟨l.map AExpr.dv, false⟩⟩).cells) ?_).trans rfl
  exact purL_set (purL_d _ _) rfl rfl (by simp)
theorem val10 (T : Tab) (hL : HL T) (hX : HX T) (x : AEntry) (hf : x.fit) : T.val 10 [x.dv] = some (.d x.dv, false) := by
 have g0 : ∀ (h : 8 < x.dv.cells.length), x.dv.cells[8]'h = .l (K1 3) (x.Legs.l.map ALeg.dv) x.Legs.t := fun _ => rfl
 have b0 : (x.Legs.l.map ALeg.dv).length * 32 ≤ cap47 := by rw [List.length_map]; exact (hf).2.1
 have t0 : x.Legs.t = false := (hf).1
 have e0 := hc_val hX.c15 (t := x.Legs.t) b0
 rw [val_k T (hL 10 F10 rfl) rfl]
 simp [F10, Fr.ofArgs, e0, fits_r, size_n, ↓mkP_eq, cells_d, fits_al]
 refine (purT_al (xs := x.cells) ?_).trans rfl
 exact (purL_set (purL_d _ _) rfl (by rw [← t0]; rfl) (by simp))
theorem val231 (T : Tab) (hL : HL T) (hX : HX T) (x : ACalendar) (hf : x.fit) : T.val 231 [x.dv] = some (.d x.dv, false) := by
 have g0 : ∀ (h : 1 < x.dv.cells.length), x.dv.cells[1]'h = .l K0 (x.Weekend.l.map I) x.Weekend.t := fun _ => rfl
 have b0 : (x.Weekend.l.map I).length * 8 ≤ cap47 := by rw [List.length_map]; exact (hf.1).2
 have t0 : x.Weekend.t = false := (hf.1).1
 have e0 := hc_val hX.c160 (t := x.Weekend.t) b0
 have g1 : ∀ (h : 2 < x.dv.cells.length), x.dv.cells[2]'h = .l K0 (x.Holidays.l.map I) x.Holidays.t := fun _ => rfl
 have b1 : (x.Holidays.l.map I).length * 8 ≤ cap47 := by rw [List.length_map]; exact (hf.2).2
 have t1 : x.Holidays.t = false := (hf.2).1
 have e1 := hc_val hX.c160 (t := x.Holidays.t) b1
 rw [val_k T (hL 231 F231 rfl) rfl]
 simp [F231, Fr.ofArgs, e0, e1, fits_r, size_n, ↓mkP_eq, cells_d, cells_a, fits_al, ↓kC_regD, ↓kDq_nil, ↓kDq_O, ↓kDq_E, ↓aftD_go, nfp_go, ↓d_load, ↓d_store, ↓d_faddr, ↓d_call1, accD, writeS, touchS, footD, storeD, chg, roOf, runs, pairsD, disj, PV.refs, IOp.okD, Nat.testBit]
 refine (purT_al (xs := x.cells) ?_).trans rfl
 exact (purL_set (purL_set (purL_d _ _) rfl (by rw [← t0]; rfl) (by simp)) rfl (by rw [← t1]; rfl) (by simp))
theorem val304 (T : Tab) (hL : HL T) (hX : HX T) (x : AInterest) (hf : x.fit) : T.val 304 [x.dv] = some (.d x.dv, false) := by
 have g0 : ∀ (h : 0 < x.dv.cells.length), x.dv.cells[0]'h = .l (K1 2) (x.Tiers.l.map ATier.dv) x.Tiers.t := fun _ => rfl
 have b0 : (x.Tiers.l.map ATier.dv).length * 16 ≤ cap47 := by rw [List.length_map]; exact (hf).2.1
 have t0 : x.Tiers.t = false := (hf).1
 have e0 := hc_val hX.c60 (t := x.Tiers.t) b0
 rw [val_k T (hL 304 F304 rfl) rfl]
 simp [F304, Fr.ofArgs, e0, fits_r, size_n, ↓mkP_eq, cells_d, fits_al]
 refine (purT_al (xs := x.cells) ?_).trans rfl
 exact (purL_set (purL_d _ _) rfl (by rw [← t0]; rfl) (by simp))
theorem val306 (T : Tab) (hL : HL T) (_hX : HX T) (x : AFee) (hx : x.ok) : T.val 306 [x.dv] = some (.d x.dv, false) := by
 have e0 := val307 T hL _ x.When (Nat.le_refl _) (hx.2.2.1)
 have p0 := fun (y : PV → Option (PV × Bool)) => mkP_slf (y := y) (n := 10) (c := 2) (v := x.dv) (w := x.When.dv) rfl rfl rfl
 have e1 := val307 T hL _ x.Amount (Nat.le_refl _) (hx.2.2.2)
 have p1 := fun (y : PV → Option (PV × Bool)) => mkP_slf (y := y) (n := 10) (c := 6) (v := x.dv) (w := x.Amount.dv) rfl rfl rfl
 rw [val_k T (hL 306 F306 rfl) rfl]
 simp [F306, Fr.ofArgs, e0, ↓p0, e1, ↓p1, size_s, cells_d, ↓kC_regD, ↓kDq_nil, ↓kDq_O, ↓kDq_E, ↓aftD_go, nfp_go, ↓d_load, ↓d_store, ↓d_faddr, ↓d_call0, accD, writeS, touchS, footD, storeD, chg, roOf, runs, pairsD, disj, PV.refs, IOp.okD, Nat.testBit]
theorem val309 (T : Tab) (hL : HL T) (_hX : HX T) (x : ARule) (hx : x.ok) : T.val 309 [x.dv] = some (.d x.dv, false) := by
 have e0 := val307 T hL _ x.Amount (Nat.le_refl _) (hx.2.2)
 have p0 := fun (y : PV → Option (PV × Bool)) => mkP_slf (y := y) (n := 6) (c := 2) (v := x.dv) (w := x.Amount.dv) rfl rfl rfl
 rw [val_k T (hL 309 F309 rfl) rfl]
 simp [F309, Fr.ofArgs, e0, ↓p0, size_s, cells_d]
theorem val233 (T : Tab) (hL : HL T) (hX : HX T) (x : AProduct) (hx : x.ok) (hf : x.fit) : T.val 233 [x.dv] = some (.d x.dv, false) := by
 have g2 : ∀ (h : 17 < x.dv.cells.length), x.dv.cells[17]'h = .l (K1 10) (x.Fees.l.map AFee.dv) x.Fees.t := fun _ => rfl
 have g3 : ∀ (h : 18 < x.dv.cells.length), x.dv.cells[18]'h = .l (K1 6) (x.Rules.l.map ARule.dv) x.Rules.t := fun _ => rfl
 have e0 := val304 T hL hX x.Credit (hf.1)
 have p0 := fun (y : PV → Option (PV × Bool)) => mkP_slf (y := y) (n := 19) (c := 7) (v := x.dv) (w := x.Credit.dv) rfl rfl rfl
 have e1 := val304 T hL hX x.Debit (hf.2.1)
 have p1 := fun (y : PV → Option (PV × Bool)) => mkP_slf (y := y) (n := 19) (c := 12) (v := x.dv) (w := x.Debit.dv) rfl rfl rfl
 have e2 := fun H0 hH => ref_each T (f := 305) (hL 305 F305 rfl) (g := 306) (A := AFee.dv) (l := x.Fees.l) (fun _ _ => rfl) (fun a ha => ⟨false, val306 T hL hX a ((hx.2.2.2.2.2.2.2.2.2.1).2 a ha)⟩) x.Fees.t (by have := (hf.2.2.1).2.1; unfold cap47 at this; omega) (by have := (hf.2.2.1).2.1; unfold cap47 at this; omega) H0 hH
 have t2 : x.Fees.t = false := (hf.2.2.1).1
 have e3 := fun H0 hH => ref_each T (f := 308) (hL 308 F308 rfl) (g := 309) (A := ARule.dv) (l := x.Rules.l) (fun _ _ => rfl) (fun a ha => ⟨false, val309 T hL hX a ((hx.2.2.2.2.2.2.2.2.2.2).2 a ha)⟩) x.Rules.t (by have := (hf.2.2.2).2.1; unfold cap47 at this; omega) (by have := (hf.2.2.2).2.1; unfold cap47 at this; omega) H0 hH
 have t3 : x.Rules.t = false := (hf.2.2.2).1
 rw [val_k T (hL 233 F233 rfl) rfl]
 simp [F233, Fr.ofArgs, e0, ↓p0, e1, ↓p1, size_s, cells_d, ↓kC_regD, ↓kDq_nil, ↓kDq_O, ↓kDq_E, ↓aftD_go, nfp_go, ↓d_load, ↓d_store, ↓d_faddr, ↓d_call0, accD, writeS, touchS, footD, storeD, chg, roOf, runs, pairsD, disj, PV.refs, IOp.okD, Nat.testBit]
 rw [e2 _ (ClB.h (by repeat (first | refine clB_sl ?_ | refine clB_ba ?_ ?_ | refine clB_bd ?_ | refine clB_o ?_ | exact clB_n _ | refine rb_set ?_ (by simp) | exact rb_d _ _)))]
 simp [fits_r, size_n, ↓mkP_eq, ↓subPa, cells_d, g3]
 rw [e3 _ (ClB.h (by repeat (first | refine clB_sl ?_ | refine clB_ba ?_ ?_ | refine clB_bd ?_ | refine clB_o ?_ | exact clB_n _ | refine rb_set ?_ (by simp) | exact rb_d _ _)))]
 simp [fits_r, size_n, ↓mkP_eq, cells_a, fits_al]
 refine (purT_al (xs := x.cells) ?_).trans rfl
 exact (purL_set (purL_set (purL_d _ _) rfl (by rw [← t2]; rfl) (by simp)) rfl (by rw [← t3]; rfl) (by simp))
end Go.Sim
end
section
namespace Go.Sim
set_option maxRecDepth 10000
set_option maxHeartbeats 4000000
theorem val234 (T : Tab) (hL : HL T) (hX : HX T) (l : List AEntry) (hf : ∀ x ∈ l, x.fit) (hb : l.length * 112 ≤ cap47) : T.val 234 [.l (K1 10) (l.map AEntry.dv) false] = some (.d (.l (K1 10) (l.map AEntry.dv) false), true) := by
 have e := fun H0 hH => ref_each T (f := 310) (hL 310 F310 rfl) (g := 10) (A := AEntry.dv) (l := l) (fun _ _ => rfl) (fun a ha => ⟨false, val10 T hL hX a (hf a ha)⟩) false (by unfold cap47 at hb; omega) (by unfold cap47 at hb; omega) H0 hH
 rw [val_k T (hL 234 F234 rfl) rfl]
 simp [F234, Fr.ofArgs]
 rw [e _ (ClB.h (by repeat (first | refine clB_sl ?_ | refine clB_ba ?_ ?_ | refine clB_bd ?_ | refine clB_o ?_ | exact clB_n _ | refine rb_set ?_ (by simp) | exact rb_d _ _)))]
 simp
 exact List.take_of_length_le (by simp)
theorem val146 (T : Tab) (hL : HL T) (hX : HX T) (x : ABooks) (hx : x.ok) (hf : x.fit) : T.val 146 [x.dv] = some (.d x.dv, false) := by
 have g0 : ∀ (h : 0 < x.dv.cells.length), x.dv.cells[0]'h = .l (K1 2) (x.Currencies.l.map ACurrency.dv) x.Currencies.t := fun _ => rfl
 have b0 : (x.Currencies.l.map ACurrency.dv).length * 24 ≤ cap47 := by rw [List.length_map]; exact (hf.1).2.1
 have t0 : x.Currencies.t = false := (hf.1).1
 have e0 := hc_val hX.c225 (t := x.Currencies.t) b0
 have g1 : ∀ (h : 2 < x.dv.cells.length), x.dv.cells[2]'h = .l (K1 4) (x.Chart.l.map AGl.dv) x.Chart.t := fun _ => rfl
 have b1 : (x.Chart.l.map AGl.dv).length * 40 ≤ cap47 := by rw [List.length_map]; exact (hf.2.2.1).2.1
 have t1 : x.Chart.t = false := (hf.2.2.1).1
 have e1 := hc_val hX.c226 (t := x.Chart.t) b1
 have g2 : ∀ (h : 18 < x.dv.cells.length), x.dv.cells[18]'h = .l (K1 7) (x.Accounts.l.map AAccount.dv) x.Accounts.t := fun _ => rfl
 have b2 : (x.Accounts.l.map AAccount.dv).length * 80 ≤ cap47 := by rw [List.length_map]; exact (hf.2.2.2.2.1).2.1
 have t2 : x.Accounts.t = false := (hf.2.2.2.2.1).1
 have e2 := hc_val hX.c227 (t := x.Accounts.t) b2
 have g3 : ∀ (h : 20 < x.dv.cells.length), x.dv.cells[20]'h = .l (K1 6) (x.Holds.l.map AHold.dv) x.Holds.t := fun _ => rfl
 have b3 : (x.Holds.l.map AHold.dv).length * 56 ≤ cap47 := by rw [List.length_map]; exact (hf.2.2.2.2.2.2.1).2.1
 have t3 : x.Holds.t = false := (hf.2.2.2.2.2.2.1).1
 have e3 := hc_val hX.c228 (t := x.Holds.t) b3
 have g4 : ∀ (h : 21 < x.dv.cells.length), x.dv.cells[21]'h = .l (K1 7) (x.Blocks.l.map ABlock.dv) x.Blocks.t := fun _ => rfl
 have b4 : (x.Blocks.l.map ABlock.dv).length * 64 ≤ cap47 := by rw [List.length_map]; exact (hf.2.2.2.2.2.2.2).2.1
 have t4 : x.Blocks.t = false := (hf.2.2.2.2.2.2.2).1
 have e4 := hc_val hX.c229 (t := x.Blocks.t) b4
 have g5 : ∀ (h : 1 < x.dv.cells.length), x.dv.cells[1]'h = .l (K1 3) (x.Calendars.l.map ACalendar.dv) x.Calendars.t := fun _ => rfl
 have g6 : ∀ (h : 17 < x.dv.cells.length), x.dv.cells[17]'h = .l (K1 19) (x.Products.l.map AProduct.dv) x.Products.t := fun _ => rfl
 have g7 : ∀ (h : 19 < x.dv.cells.length), x.dv.cells[19]'h = .l (K1 10) (x.Journal.l.map AEntry.dv) x.Journal.t := fun _ => rfl
 have e5 := fun H0 hH => ref_each T (f := 230) (hL 230 F230 rfl) (g := 231) (A := ACalendar.dv) (l := x.Calendars.l) (fun _ _ => rfl) (fun a ha => ⟨false, val231 T hL hX a  ((hf.2.1).2.2 a ha)⟩) x.Calendars.t (by have := (hf.2.1).2.1; unfold cap47 at this; omega) (by have := (hf.2.1).2.1; unfold cap47 at this; omega) H0 hH
 have t5 : x.Calendars.t = false := (hf.2.1).1
 have e6 := fun H0 hH => ref_each T (f := 232) (hL 232 F232 rfl) (g := 233) (A := AProduct.dv) (l := x.Products.l) (fun _ _ => rfl) (fun a ha => ⟨false, val233 T hL hX a ((hx.2.2.2.2.1).2 a ha) ((hf.2.2.2.1).2.2 a ha)⟩) x.Products.t (by have := (hf.2.2.2.1).2.1; unfold cap47 at this; omega) (by have := (hf.2.2.2.1).2.1; unfold cap47 at this; omega) H0 hH
 have t6 : x.Products.t = false := (hf.2.2.2.1).1
 have t7 : x.Journal.t = false := (hf.2.2.2.2.2.1).1
 have e7 := val234 T hL hX x.Journal.l (hf.2.2.2.2.2.1).2.2 (hf.2.2.2.2.2.1).2.1
 rw [← t7] at e7
 rw [val_k T (hL 146 F146 rfl) rfl]
 simp [F146, Fr.ofArgs, e0, e1, e2, g3, e3, g4, e4, g5, fits_r, size_n, ↓mkP_eq, ↓subPa, cells_d, cells_a, ↓kC_regD, ↓kDq_nil, ↓kDq_O, ↓kDq_E, ↓aftD_go, nfp_go, ↓d_load, ↓d_store, ↓d_faddr, ↓d_call1, accD, writeS, touchS, footD, storeD, chg, roOf, runs, pairsD, disj, PV.refs, IOp.okD, Nat.testBit]
 rw [e5 _ (ClB.h (by repeat (first | refine clB_sl ?_ | refine clB_ba ?_ ?_ | refine clB_bd ?_ | refine clB_o ?_ | exact clB_n _ | refine rb_set ?_ (by simp) | exact rb_d _ _)))]
 simp [fits_r, size_n, ↓mkP_eq, ↓subPa, cells_a, g6]
 rw [e6 _ (ClB.h (by repeat (first | refine clB_sl ?_ | refine clB_ba ?_ ?_ | refine clB_bd ?_ | refine clB_o ?_ | exact clB_n _ | refine rb_set ?_ (by simp) | exact rb_d _ _)))]
 simp [fits_r, dcells_l, size_n, ↓mkP_eq, ↓subPa, cells_d, cells_a, g7, e7]
 rw [mkP_same (by simp; rfl) (by simp) (by simp)]
 simp [fits_al]
 refine (purT_al (xs := x.cells) ?_).trans rfl
 exact (purL_set (purL_set (purL_set (purL_set (purL_set (purL_set (purL_set (purL_d _ _) rfl (by rw [← t0]; rfl) (by simp)) rfl (by rw [← t1]; rfl) (by simp)) rfl (by rw [← t2]; rfl) (by simp)) rfl (by rw [← t3]; rfl) (by simp)) rfl (by rw [← t4]; rfl) (by simp)) rfl (by rw [← t5]; rfl) (by simp)) rfl (by rw [← t6]; rfl) (by simp))
end Go.Sim
end
section
namespace Go.Sim
set_option maxRecDepth 10000
set_option maxHeartbeats 4000000
def hasP (a b : List UInt8) : Bool := decide (b.length ≤ a.length) && (a.take b.length == b)
theorem val291 (T : Tab) (hY : HY T) (a b : List UInt8) : T.val 291 [.s a, .s b] = some (.d (.b (hasP a b)), false) := by
 rw [val_k T (hY 291 F291 rfl) rfl]
 unfold hasP
 cases h : decide (b.length ≤ a.length) with
 | false =>
  have h1 : ¬ b.length ≤ a.length := by simpa using h
  simp [F291, Fr.ofArgs, h1]
 | true =>
  have h1 : b.length ≤ a.length := by simpa using h
  simp [F291, Fr.ofArgs, h1]
theorem val207 (T : Tab) (hY : HY T) (a b : List UInt8) : T.val 207 [.s a, .s b] = some (.d (.b (hasP a b)), false) := by
 have e := val291 T hY a b
 rw [val_k T (hY 207 F207 rfl) rfl]
 simp [F207, Fr.ofArgs, e]
def ownB (b : ABank) (t : ATask) (e : AEntry) : Bool := if t.Stage == 9 then decide (b.Day < e.Booked) else hasP e.Key (preY b.Day t)
theorem ref560 (T : Tab) (hY : HY T) (hI : HItY T) (b : ABank) (t : ATask) (e : AEntry) (hd : inK .i64 b.Day) (ht : t.ok) (H : Heap) (hH : Cl H) (pt pb : Nat) (h1 : H.obj pt = some (.box (K1 2) (.d t.dv))) (h2 : H.obj pb = some (.box (K1 42) (.d b.dv))) (l1 : pt < H.length) (l2 : pb < H.length) :
  T.ref 560 [.d e.dv, .p pt 0 0, .p pb 0 0] H = some (.d (.b (ownB b t e)), H) := by
 have e1 := val561 T hY hI b.Day t hd ht
 have e2 := val207 T hY e.Key (preY b.Day t)
 rw [ref_k T (hY 560 F560 rfl) rfl]
 have h1' : ∀ J, Heap.obj (H ++ J) pt = some (.box (K1 2) (.d t.dv)) := fun J => by
  unfold Heap.obj at h1 ⊢
  rw [List.getElem?_append_left l1]; exact h1
 have h2' : ∀ J, Heap.obj (H ++ J) pb = some (.box (K1 42) (.d b.dv)) := fun J => by
  unfold Heap.obj at h2 ⊢
  rw [List.getElem?_append_left l2]; exact h2
 unfold ownB
 cases hs : (t.Stage == 9) with
 | true =>
  simp [F560, Fr.ofArgs, finR_ret, put_app0, obj_app0, h1', h2', hs]
  exact (gcVd hH [some (.box (K1 10) (.d e.dv))] _)
 | false =>
  simp [F560, Fr.ofArgs, finR_ret, put_app0, obj_app0, h1', h2', hs, e1, e2, ↓kC_regD, ↓kDq_nil, ↓kDq_O, ↓aftD_go, nfp_go, ↓d_mov, ↓d_load, ↓d_faddr, ↓d_call0, accD, writeS, touchS, footD, storeD, chg, roOf, runs, pairsD, disj, PV.refs, IOp.okD, Nat.testBit]
  try exact (gcVd hH [some (.box (K1 10) (.d e.dv))] _)
theorem val1121 (T : Tab) (hY : HY T) (b : ABank) (t : ATask) (e : AEntry) (hd : inK .i64 b.Day) (ht : t.ok) : T.val 1121 [b.dv, t.dv, e.dv] = some (.d (.b (ownB b t e)), false) := by
 have e1 := val1011 T hY b.Day t hd ht
 rw [val_k T (hY 1121 F1121 rfl) rfl]
 unfold ownB hasP
 cases hs : (t.Stage == 9) with
 | true => simp [F1121, Fr.ofArgs, hs]
 | false =>
  cases h : decide ((preY b.Day t).length ≤ e.Key.length) with
  | false =>
   have h1 : ¬ (preY b.Day t).length ≤ e.Key.length := by simpa using h
   simp [F1121, Fr.ofArgs, hs, e1, h1]
  | true =>
   have h1 : (preY b.Day t).length ≤ e.Key.length := by simpa using h
   simp [F1121, Fr.ofArgs, hs, e1, h1]
end Go.Sim
end
section
namespace Go.Sim
set_option maxRecDepth 10000
set_option maxHeartbeats 4000000
def befN (b : ABank) (t : ATask) : Nat := match b.Books.Journal.l.reverse.findIdx? (fun e => !ownB b t e) with | some j => b.Books.Journal.l.length - j | none => 0
theorem befN_le (b : ABank) (t : ATask) : befN b t ≤ b.Books.Journal.l.length := by
 unfold befN; split <;> omega
theorem lp528 (T : Tab) (hY : HY T) (hI : HItY T) (b : ABank) (t : ATask) (z : DV) (hd : inK .i64 b.Day) (ht : t.ok) (hn : b.Books.Journal.l.length ≤ maxLen) {k : KC (PV × Bool)} {fr : Fr} {H : Heap}
  (h0 : gc [2, 4, 5, 6] 0 ⟨fr, H⟩ = ⟨[(6, .d (I b.Books.Journal.l.length)), (5, .f 560 [.p 0 0 0, .p 1 0 0]), (4, .p 2 0 0), (2, .p 1 0 0)], [some (.box (K1 2) (.d t.dv)), some (.box (K1 42) (.d b.dv)), some (.box (K1 22) (.d z))]⟩) :
  kC T.env 0 fr H (.h (.loop [2, 4, 5, 6] L528_0, k)) = k (.exit 0) [(25, .d (.b false)), (6, .d (I (befN b t))), (5, .f 560 [.p 0 0 0, .p 1 0 0]), (4, .p 2 0 0), (2, .p 1 0 0)] [some (.box (K1 2) (.d t.dv)), some (.box (K1 42) (.d b.dv)), some (.box (K1 22) (.d z))] := by
 have hcl : Cl [some (.box (K1 2) (.d t.dv)), some (.box (K1 42) (.d b.dv)), some (.box (K1 22) (.d z))] := fun r h => by simp [heapRefs, orefs, Obj.refs, PV.refs] at h
 have ho := fun e => ref560 T hY hI b t e hd ht _ hcl 0 1 rfl rfl (by simp) (by simp)
 rw [loop_rounds b.Books.Journal.l.reverse (fun i (_ : Unit) => ⟨[(6, .d (I ((b.Books.Journal.l.length - i : Nat) : Int))), (5, .f 560 [.p 0 0 0, .p 1 0 0]), (4, .p 2 0 0), (2, .p 1 0 0)], [some (.box (K1 2) (.d t.dv)), some (.box (K1 42) (.d b.dv)), some (.box (K1 22) (.d z))]⟩) (fun _ _ => True) (fun i _ e c => if (!ownB b t e) = true then k (.exit 0) [(25, .d (.b false)), (6, .d (I ((b.Books.Journal.l.length - i : Nat) : Int))), (5, .f 560 [.p 0 0 0, .p 1 0 0]), (4, .p 2 0 0), (2, .p 1 0 0)] [some (.box (K1 2) (.d t.dv)), some (.box (K1 42) (.d b.dv)), some (.box (K1 22) (.d z))] else c ()) (fun _ => k (.exit 0) [(25, .d (.b false)), (6, .d (I 0)), (5, .f 560 [.p 0 0 0, .p 1 0 0]), (4, .p 2 0 0), (2, .p 1 0 0)] [some (.box (K1 2) (.d t.dv)), some (.box (K1 42) (.d b.dv)), some (.box (K1 22) (.d z))]) ?_ ?_ (b0 := ()) (by simpa using h0) trivial]
 ·rw [rounds_find (fun e => !ownB b t e) (fun i => k (.exit 0) [(25, .d (.b false)), (6, .d (I ((b.Books.Journal.l.length - i : Nat) : Int))), (5, .f 560 [.p 0 0 0, .p 1 0 0]), (4, .p 2 0 0), (2, .p 1 0 0)] [some (.box (K1 2) (.d t.dv)), some (.box (K1 42) (.d b.dv)), some (.box (K1 22) (.d z))]) _ _ (fun _ _ _ _ => rfl)]
  unfold befN
  cases b.Books.Journal.l.reverse.findIdx? (fun e => !ownB b t e) with
  | some j => simp
  | none => rfl
 ·intro B _ _ _
  simp [L528_0]
 ·intro B _ i _ hi _ c hc
  have hm := mxl
  rw [List.length_reverse] at hi
  obtain ⟨m, hmi⟩ : ∃ m, b.Books.Journal.l.length - i = m + 1 := ⟨b.Books.Journal.l.length - i - 1, by omega⟩
  have hmi2 : b.Books.Journal.l.length - (i + 1) = m := by omega
  have hlt : m < b.Books.Journal.l.length := by omega
  have hx : b.Books.Journal.l.reverse[i]'(by simpa using hi) = b.Books.Journal.l[m] := by
   rw [List.getElem_reverse]; congr 1; omega
  rw [hx]
  have h1 : (m : Int) < b.Books.Journal.l.length := by omega
  have h3 : IntKind.i64.wrap (m : Int) = m := wrI (by omega) (by omega)
  have he := ho b.Books.Journal.l[m]
  have h4 : (0 : Int) < m + 1 := by omega
  simp only [hmi]
  simp only [hmi2] at hc
  cases hq : ownB b t b.Books.Journal.l[m] with
  | true =>
   rw [hq] at he
   simp [L528_0, h1, h3, h4, hlt, he]
   exact hc () _ _ trivial (by simp [gc, Fr.keep, reach, frRefs, heapRefs, PV.refs, PV.refsL, place, gcH, orefs, Obj.refs, PV.ren, PV.renL, Obj.ren, Heap.obj, Fr.ren, gh, List.idxOf?_cons])
  | false =>
   rw [hq] at he
   simp [L528_0, h1, h3, h4, hlt, he]
def ABooks.upTo (b : ABooks) (n : Nat) : ABooks := { b with Journal := ⟨b.Journal.l.take n, false⟩ }
theorem upTo_ok {b : ABooks} (h : b.ok) (n : Nat) : (b.upTo n).ok := by
 obtain ⟨h1, h2, h3, h4, h5, h6, h7, h8⟩ := h
 refine ⟨h1, h2, h3, h4, h5, h6, ⟨?_, fun a ha => h7.2 a (List.mem_of_mem_take ha)⟩, h8⟩
 show (b.Journal.l.take n).length ≤ maxLen
 rw [List.length_take]; have := h7.1; omega
theorem upTo_fit {b : ABooks} (h : b.fit) (n : Nat) : (b.upTo n).fit := by
 obtain ⟨h1, h2, h3, h4, h5, h6, h7⟩ := h
 refine ⟨h1, h2, h3, h4, h5, ⟨rfl, ?_, fun a ha => h6.2.2 a (List.mem_of_mem_take ha)⟩, h7⟩
 show (b.Journal.l.take n).length * 112 ≤ cap47
 rw [List.length_take]; have := h6.2.1; unfold cap47 at *; omega
theorem val528 (T : Tab) (hY : HY T) (hI : HItY T) (hL : HL T) (hX : HX T) (b : ABank) (t : ATask) (hb : b.ok) (hf : b.fit) (ht : t.ok) : T.val 528 [b.dv, t.dv] = some (.d (b.Books.upTo (befN b t)).dv, false) := by
 have hd : inK .i64 b.Day := hb.1
 have hn : b.Books.Journal.l.length ≤ maxLen := hb.2.2.2.1.2.2.2.2.2.2.1.1
 have hle := befN_le b t
 have hle' : (befN b t : Int) ≤ b.Books.Journal.l.length := by omega
 have e146 := val146 T hL hX (b.Books.upTo (befN b t)) (upTo_ok hb.2.2.2.1 _) (upTo_fit hf.1 _)
 have lp := fun z k fr H => @lp528 T hY hI b t z hd ht hn k fr H
 have hz : F528 = F528 := rfl
 rw [val_k T (hY 528 F528 rfl) rfl]
 conv at hz => rhs; unfold F528
 generalize (DV.a [(.l (K1 2) [] true), (.l (K1 3) [] true), (.l (K1 4) [] true), (I 0), (I 0), (I 0), (I 0), (I 0), (I 0), (I 0), (I 0), (I 0), (I 0), (I 0), (I 0), (I 0), (I 0), (.l (K1 19) [] true), (.l (K1 7) [] true), (.l (K1 10) [] true), (.l (K1 6) [] true), (.l (K1 7) [] true)]) = z at hz
 rw [hz]
 simp [Fr.ofArgs]
 refine (lp z _ _ _ ?_).trans ?_
 ·simp [gc, Fr.keep, reach, frRefs, heapRefs, PV.refs, PV.refsL, place, gcH, orefs, Obj.refs, PV.ren, PV.renL, Obj.ren, Heap.obj, Fr.ren, gh, List.idxOf?_cons]
 ·have tf : b.Books.Journal.t = false := hf.1.2.2.2.2.2.1.1
  have eS : ∀ (H : Heap) (y : PV → Option (PV × Bool)), bo (slA H (K1 10) (.d (.l (K1 10) (b.Books.Journal.l.map AEntry.dv) false)) none (some (.d (I (befN b t)))) none) (.h y) = y (.d (.l (K1 10) ((b.Books.Journal.l.map AEntry.dv).take (befN b t)) false)) := fun H y => by
   have h1 : ((befN b t : Int) ≤ ((b.Books.Journal.l.map AEntry.dv).length : Int)) := by simpa using hle'
   simp only [slA, K_refl, Bool.true_or, if_true, bnd, asI, h1, Int.natCast_nonneg, and_self, Int.toNat_natCast, List.drop_zero, Bool.false_and, Option.isSome_none, Bool.false_eq_true, if_false, bo]
  have eM : ∀ (y : PV → Option (PV × Bool)), bo (mkP (some 22) (putAt (b.Books.dv.cells.map PV.d) 19 [.d (.l (K1 10) ((b.Books.Journal.l.map AEntry.dv).take (befN b t)) false)])) (.h y) = y (.d (b.Books.upTo (befN b t)).dv) := fun y => by
   have hl : ((b.Books.dv.cells.set 19 (.l (K1 10) ((b.Books.Journal.l.map AEntry.dv).take (befN b t)) false)).map PV.d).length = 22 := by simp
   rw [putAt_1 _ _ _ (by simp), ← List.map_set]
   simp only [mkP, hl, if_true, mkA, plains_d, bo]
   rw [← List.map_take]; rfl
  simp [cells_d, dcells_l, tf, size_n, e146, eS, eM]
end Go.Sim
end
end
section
namespace Go.Sim
section
variable {R : Type} {E : Env} {fr : Fr} {H : Heap} {bf : List Nat} {acc : List (List Nat × List Nat)} {id : Nat} {j : KO R}
def allOps : Nat → List Nat → Nat → Bool
 | 0, _, _ => true
 | m + 1, bf, n => allB (bf.headD 0) 0 n && allOps m bf.tail (n + 1)
def kS (E : Env) (id : Nat) (fr : Fr) (H : Heap) : List IOper → KO R → Option R
 | [], j => j fr H
 | o :: r, j => match stepD E o id ⟨fr, H⟩ with
  | some s => kS E (if o.op.adds then id + 1 else id) s.fr s.H r j
  | none => none
theorem kD_allseq : ∀ (ops : List IOper) (bf : List Nat) (acc : List (List Nat × List Nat)) (id : Nat) (fr : Fr) (H : Heap), allOps ops.length bf acc.length = true → kD E id fr H bf acc (.h (ops, j)) = kS E id fr H ops j
 | [], _, _, _, _, _, _ => rfl
 | o :: r, bf, acc, id, fr, H, h => by
  simp only [List.length_cons, allOps, Bool.and_eq_true] at h
  rw [kD_cons]
  simp only [kS]
  cases stepD E o id ⟨fr, H⟩ with
  | none => rfl
  | some s =>
   simp only [aftD, nfp, accD, chk, pairs_all _ _ _ _ _ h.1, if_true]
   exact kD_allseq r bf.tail _ _ _ _ (by simpa using h.2)
def kSd (E : Env) (id : Nat) (fr : Fr) (H : Heap) {ops : List IOper} {j : KO R} (_ : Hd (ops, j)) : Option R := kS E id fr H ops j
theorem kD_appS {d : Nat} {k : K} {b : Nat} {x y : Rand} {r : List IOper} (h : allOps (r.length + 1) bf acc.length = true) : kD E id fr H bf acc (.h (⟨some d, .app k b x y, none⟩ :: r, j)) = bo2 (evalOp E (rd E fr) H id (.app k b x y)) (.h fun v H' => chk (H'.length = H.length) (.h (kSd E (id + 1) (fr.set d v) H' (.h (r, j))))) := by
 rw [kD_allseq (⟨some d, .app k b x y, none⟩ :: r) bf acc id fr H h]
 simp only [kS, stepD, evalOpD, IOp.okD, Bool.false_eq_true, if_false, IOp.barr, if_true]
 cases evalOp E (rd E fr) H id (.app k b x y) with
 | none => rfl
 | some p =>
  obtain ⟨v, H'⟩ := p
  simp only [bo2, chk]
  by_cases hl : H'.length = H.length
  ·have hb : Nat.beq H'.length H.length = true := by rw [hl]; exact Nat.beq_refl _
   rw [if_pos hl]
   simp only [hb, if_true, IOp.adds]
   rfl
  ·have hb : Nat.beq H'.length H.length = false := by
    cases h2 : Nat.beq H'.length H.length with
    | false => rfl
    | true => exact absurd (Nat.eq_of_beq_eq_true h2) hl
   rw [if_neg hl]
   simp only [hb, if_false, Bool.false_eq_true]
theorem kSd_n : kSd E id fr H (.h ([], j)) = j fr H := rfl
theorem kSd_O {d : Nat} {op : IOp} {r : List IOper} : kSd E id fr H (.h (⟨some d, op, none⟩ :: r, j)) = bo2 (evalOpD E (rd E fr) H id op) (.h fun v H' => kSd E (if op.adds = true then id + 1 else id) (fr.set d v) H' (.h (r, j))) := by
 simp only [kSd, kS, stepD]
 cases evalOpD E (rd E fr) H id op with
 | none => rfl
 | some p => rfl
theorem kSd_E {op : IOp} {r : List IOper} : kSd E id fr H (.h (⟨none, op, none⟩ :: r, j)) = bo2 (evalOpD E (rd E fr) H id op) (.h fun _ H' => kSd E (if op.adds = true then id + 1 else id) fr H' (.h (r, j))) := by
 simp only [kSd, kS, stepD]
 cases evalOpD E (rd E fr) H id op with
 | none => rfl
 | some p => rfl
end
end Go.Sim
end
section
open Go.Sim
attribute [local simp ↓] kC_skip kC_ret kC_exit kC_seq kC_block kC_reg kC_cond kC_condc sqK blK lpK kO_nil kO_O kO_E kO_OG kO_EG grd_b grd_t tst_b brn_true brn_false brn_not chk_T b_mov b_pick b_alloc b_box b_load b_store b_bin b_un b_eqv b_faddr b_field b_iaddr b_sl b_len b_app b_call b_call1 b_callR b_ext bo_some bo_none bo2_some bo2_none bo_iaddr bo_addS bo_quo bo_rem bo_bnd bo_bnd0 ld_q0 ld_qw ld_p subP0 subPw bo_moveP bo_moveQ bo_lenl bo_lens bo_lenr bo_add bo_sub bo_mul bo_eql bo_neq bo_lss bo_leq bo_gtr bo_geq bo_neg bo_not bo_eqS bo_neS grd_nb b_slS slSK_s extK_t ownL_l fin_ret fin_norm bo_res0 bo_rest bo_resc st_p stK_box b_callv callvK_f0 callvK_f1 mkf_b subPs ld_qs kC_regS0 kC_regS1 kC_regS2 kC_regS3 kC_regS4 kC_regS5 b_eqb eqbK_b b_agg0 b_bsl0 b_bsl1 app_l app_r appE_n appE_r bo_lenR b_mkif mkifK_d b_tas tasK_i b_mm2 bo_mm2
attribute [local simp] K_refl obj_0 obj_s get_c get_n drop_c drop_n set_c set_n fix_c fix_n rd IOp.adds nadds gh nid rgK rdS ghosts_c ghosts_n packed1 packed2 purT_b purT_i purT_s purT_a purT_lt purT_lf K_ss K_ns K_sn plains_n plains_c env_val env_ref purs_n purs_d put_0 put_s fits_i fits_b fits_s fits_l lt0_nat fits_a purT_t pur_dv frz_n purT_r purT_f
section
namespace Go.Sim
attribute [local simp ↓ 2000] kD_appS
set_option maxRecDepth 10000
set_option maxHeartbeats 4000000
theorem lp1120_0 (T : Tab) (hY : HY T) (b : ABank) (t : ATask) (z : DV) (hd : inK .i64 b.Day) (ht : t.ok) (hn : b.Books.Journal.l.length ≤ maxLen) {k : KC (PV × Bool)} {fr : Fr} {H : Heap}
  (h0 : gc [2, 3, 4, 5] 0 ⟨fr, H⟩ = ⟨[(5, .d (I b.Books.Journal.l.length)), (4, .p 0 0 0), (3, .p 1 0 0), (2, .p 2 0 0)], [some (.box (K1 22) (.d z)), some (.box (K1 2) (.d t.dv)), some (.box (K1 42) (.d b.dv))]⟩) :
  kC T.env 0 fr H (.h (.loop [2, 3, 4, 5] L1120_0, k)) = k (.exit 0) [(25, .d (.b false)), (5, .d (I (befN b t))), (4, .p 0 0 0), (3, .p 1 0 0), (2, .p 2 0 0)] [some (.box (K1 22) (.d z)), some (.box (K1 2) (.d t.dv)), some (.box (K1 42) (.d b.dv))] := by
 have ho := fun e => val1121 T hY b t e hd ht
 rw [loop_rounds b.Books.Journal.l.reverse (fun i (_ : Unit) => ⟨[(5, .d (I ((b.Books.Journal.l.length - i : Nat) : Int))), (4, .p 0 0 0), (3, .p 1 0 0), (2, .p 2 0 0)], [some (.box (K1 22) (.d z)), some (.box (K1 2) (.d t.dv)), some (.box (K1 42) (.d b.dv))]⟩) (fun _ _ => True) (fun i _ e c => if (!ownB b t e) = true then k (.exit 0) [(25, .d (.b false)), (5, .d (I ((b.Books.Journal.l.length - i : Nat) : Int))), (4, .p 0 0 0), (3, .p 1 0 0), (2, .p 2 0 0)] [some (.box (K1 22) (.d z)), some (.box (K1 2) (.d t.dv)), some (.box (K1 42) (.d b.dv))] else c ()) (fun _ => k (.exit 0) [(25, .d (.b false)), (5, .d (I 0)), (4, .p 0 0 0), (3, .p 1 0 0), (2, .p 2 0 0)] [some (.box (K1 22) (.d z)), some (.box (K1 2) (.d t.dv)), some (.box (K1 42) (.d b.dv))]) ?_ ?_ (b0 := ()) (by simpa using h0) trivial]
 ·rw [rounds_find (fun e => !ownB b t e) (fun i => k (.exit 0) [(25, .d (.b false)), (5, .d (I ((b.Books.Journal.l.length - i : Nat) : Int))), (4, .p 0 0 0), (3, .p 1 0 0), (2, .p 2 0 0)] [some (.box (K1 22) (.d z)), some (.box (K1 2) (.d t.dv)), some (.box (K1 42) (.d b.dv))]) _ _ (fun _ _ _ _ => rfl)]
  unfold befN
  cases b.Books.Journal.l.reverse.findIdx? (fun e => !ownB b t e) with
  | some j => simp
  | none => rfl
 ·intro B _ _ _
  simp [L1120_0]
 ·intro B _ i _ hi _ c hc
  have hm := mxl
  rw [List.length_reverse] at hi
  obtain ⟨m, hmi⟩ : ∃ m, b.Books.Journal.l.length - i = m + 1 := ⟨b.Books.Journal.l.length - i - 1, by omega⟩
  have hmi2 : b.Books.Journal.l.length - (i + 1) = m := by omega
  have hlt : m < b.Books.Journal.l.length := by omega
  have hx : b.Books.Journal.l.reverse[i]'(by simpa using hi) = b.Books.Journal.l[m] := by
   rw [List.getElem_reverse]; congr 1; omega
  rw [hx]
  have h1 : (m : Int) < b.Books.Journal.l.length := by omega
  have h3 : IntKind.i64.wrap (m : Int) = m := wrI (by omega) (by omega)
  have he := ho b.Books.Journal.l[m]
  have h4 : (0 : Int) < m + 1 := by omega
  simp only [hmi]
  simp only [hmi2] at hc
  cases hq : ownB b t b.Books.Journal.l[m] with
  | true =>
   rw [hq] at he
   simp [L1120_0, h1, h3, h4, hlt, he]
   exact hc () _ _ trivial (by simp [gc, Fr.keep, reach, frRefs, heapRefs, PV.refs, place, gcH, orefs, Obj.refs, PV.ren, Obj.ren, Heap.obj, Fr.ren, gh, List.idxOf?_cons])
  | false =>
   rw [hq] at he
   simp [L1120_0, h1, h3, h4, hlt, he]
def ABooks.bare (b : ABooks) : ABooks := { b with Journal := ⟨[], true⟩ }
def stB (b : ABank) (z : DV) (n : Nat) : Nat → St
 | 0 => ⟨[(7, .d (I 0)), (6, .p 0 0 0), (5, .d (I n)), (4, .p 1 0 0), (2, .p 2 0 0)], [some (.box (K1 22) (.d b.Books.bare.dv)), some (.box (K1 22) (.d z)), some (.box (K1 42) (.d b.dv))]⟩
 | i + 1 => ⟨[(7, .d (I ((i + 1 : Nat) : Int))), (6, .p 0 0 0), (5, .d (I n)), (4, .p 2 0 0), (2, .p 3 0 0)], [some (.box (K1 22) (.a ((b.Books.bare.dv.cells.map PV.d).set 19 (.r 1 (K1 10) 0 (i + 1) false)))), some (.sl (K1 10) 0 ((b.Books.Journal.l.map AEntry.dv).take (i + 1))), some (.box (K1 22) (.d z)), some (.box (K1 42) (.d b.dv))]⟩
theorem lp1120_1 (T : Tab) (b : ABank) (z : DV) (n : Nat) (hn : n ≤ b.Books.Journal.l.length) (hb : b.Books.Journal.l.length ≤ 100000) {k : KC (PV × Bool)} {fr : Fr} {H : Heap}
  (h0 : gc [2, 4, 5, 6, 7] 0 ⟨fr, H⟩ = stB b z n 0) :
  kC T.env 0 fr H (.h (.loop [2, 4, 5, 6, 7] L1120_1, k)) = k (.exit 2) ((33, .d (.b false)) :: (stB b z n n).fr) (stB b z n n).H := by
 have hlen : (b.Books.Journal.l.take n).length = n := by rw [List.length_take]; omega
 rw [loop_rounds (b.Books.Journal.l.take n) (fun i (_ : Unit) => stB b z n i) (fun _ _ => True) (fun _ _ _ c => c ()) (fun _ => k (.exit 2) ((33, .d (.b false)) :: (stB b z n n).fr) (stB b z n n).H) ?_ ?_ (b0 := ()) h0 trivial]
 ·have : ∀ (m : List AEntry) (i : Nat) (d : Unit → Option (PV × Bool)), rounds (fun _ (_ : Unit) (_ : AEntry) c => c ()) d i () m = d () := by
   intro m
   induction m with
   | nil => intro i d; rfl
   | cons x r ih => intro i d; exact ih (i + 1) d
  exact this _ _ _
 ·intro B _ _ _
  rw [hlen]
  cases n with
  | zero => simp [L1120_1, stB]
  | succ n => simp [L1120_1, stB]
 ·intro B _ i _ hi _ c hc
  rw [hlen] at hi
  have h1 : (i : Int) < n := by omega
  have h2 : (i : Int) < b.Books.Journal.l.length := by omega
  have h5 : i < b.Books.Journal.l.length := by omega
  have h3 := wr1 (i := i) (by omega)
  have hc' := hc ()
  have hm1 : (b.Books.Journal.l.map AEntry.dv)[i]? = some b.Books.Journal.l[i].dv := by rw [List.getElem?_map, List.getElem?_eq_getElem h5]; rfl
  cases i with
  | zero =>
   have h6 : 0 < n := hi
   have h7 : IntKind.i64.wrap 1 = 1 := rfl
   have j1 : b.Books.bare.Journal.l = [] := rfl
   have j2 : b.Books.bare.Journal.t = true := rfl
   simp only [stB]
   simp [L1120_1, h6, h5, h7, j1, j2, ↓kC_regD, ↓kDq_O, ↓aftD_go, nfp_go, ↓d_mov, ↓d_bsl, ↓d_load, ↓d_store, ↓d_faddr, ↓d_iaddr, accD, writeS, touchS, footD, storeD, chg, roOf, runs, pairsD, disj, PV.refs, IOp.okD, Nat.testBit, allB, allOps, ↓kSd_n, ↓kSd_O, ↓kSd_E, fits_r, size_n, ↓mkP_eq, cells_d]
   refine hc' _ _ trivial ?_
   have e : [(b.Books.Journal.l[0]).dv] = (b.Books.Journal.l.map AEntry.dv).take (0 + 1) := by
    have := tk_map AEntry.dv b.Books.Journal.l h5
    rw [List.map_take] at this
    simpa using this
   rw [e]
   show gc _ _ _ = _
   kernel_rfl
  | succ i =>
   simp only [stB]
   have h6 : (i + 1 : Int) < n := by omega
   have h7 : IntKind.i64.wrap ((i : Int) + 1 + 1) = (i : Int) + 1 + 1 := by simpa using h3
   have h8 : (i : Int) + 1 < b.Books.Journal.l.length := by omega
   have h9 : (i + 1 + 1) * 112 ≤ 140737488355328 := by omega
   have h10 : (0 : Int) ≤ (i : Int) + 1 := by omega
   have ht : min (i + 1) b.Books.Journal.l.length = i + 1 := by omega
   simp [L1120_1, h6, h5, h7, h8, h9, h10, ht, ↓kC_regD, ↓kDq_O, ↓aftD_go, nfp_go, ↓d_mov, ↓d_bsl, ↓d_load, ↓d_store, ↓d_faddr, ↓d_iaddr, accD, writeS, touchS, footD, storeD, chg, roOf, runs, pairsD, disj, PV.refs, IOp.okD, Nat.testBit, allB, allOps, ↓kSd_n, ↓kSd_O, ↓kSd_E, fits_r, size_n, ↓mkP_eq, ↓subPa, cells_a]
   refine hc' _ _ trivial ?_
   have e : List.take (i + 1) (List.take (i + 1) (b.Books.Journal.l.map AEntry.dv)) ++ [(b.Books.Journal.l[i + 1]).dv] = (b.Books.Journal.l.map AEntry.dv).take (i + 1 + 1) := by
    rw [List.take_take, Nat.min_self, tk_map AEntry.dv b.Books.Journal.l h5, List.map_take]
   rw [e]
   show gc _ _ _ = _
   kernel_rfl
def befR (b : ABank) (t : ATask) : ABooks := { b.Books with Journal := ⟨b.Books.Journal.l.take (befN b t), (b.Books.Journal.l.take (befN b t)).isEmpty⟩ }
theorem val1120 (T : Tab) (hY : HY T) (b : ABank) (t : ATask) (hb : b.ok) (ht : t.ok) (hn : b.Books.Journal.l.length ≤ 100000) : T.val 1120 [b.dv, t.dv] = some (.d (befR b t).dv, false) := by
 have hd : inK .i64 b.Day := hb.1
 have hm : b.Books.Journal.l.length ≤ maxLen := hb.2.2.2.1.2.2.2.2.2.2.1.1
 have hle := befN_le b t
 have lp0 := fun z k fr H => @lp1120_0 T hY b t z hd ht hm k fr H
 have lp1 := fun z k fr H => @lp1120_1 T b z (befN b t) hle hn k fr H
 have hz : F1120 = F1120 := rfl
 rw [val_k T (hY 1120 F1120 rfl) rfl]
 conv at hz => rhs; unfold F1120
 generalize (DV.a [(.l (K1 2) [] true), (.l (K1 3) [] true), (.l (K1 4) [] true), (I 0), (I 0), (I 0), (I 0), (I 0), (I 0), (I 0), (I 0), (I 0), (I 0), (I 0), (I 0), (I 0), (I 0), (.l (K1 19) [] true), (.l (K1 7) [] true), (.l (K1 10) [] true), (.l (K1 6) [] true), (.l (K1 7) [] true)]) = z at hz
 rw [hz]
 simp [Fr.ofArgs]
 refine (lp0 z _ _ _ ?_).trans ?_
 ·simp [gc, Fr.keep, reach, frRefs, heapRefs, PV.refs, place, gcH, orefs, Obj.refs, PV.ren, Obj.ren, Heap.obj, Fr.ren, gh, List.idxOf?_cons]
 ·have eM : ∀ (y : PV → Option (PV × Bool)), bo (mkP (some 22) (putAt (b.Books.dv.cells.map PV.d) 19 [.d (.l (K1 10) [] true)])) (.h y) = y (.d b.Books.bare.dv) := fun y => by
   have hl : ((b.Books.dv.cells.set 19 (.l (K1 10) [] true)).map PV.d).length = 22 := by simp
   rw [putAt_1 _ _ _ (by simp), ← List.map_set]
   simp only [mkP, hl, if_true, mkA, plains_d, bo]
   rfl
  simp [cells_d, dcells_l, size_n, eM]
  refine (lp1 z _ _ _ ?_).trans ?_
  ·kernel_rfl
  ·cases hq : befN b t with
   | zero =>
    have e : (b.Books.bare).dv = (befR b t).dv := by unfold befR; rw [hq]; rfl
    simp only [stB, blK, sqK, if_true]
    simp [e]
   | succ m =>
    rw [hq] at hle
    have e : (befR b t) = b.Books.upTo (m + 1) := by
     unfold befR ABooks.upTo
     rw [hq]
     have : (b.Books.Journal.l.take (m + 1)).isEmpty = false := by
      cases h : b.Books.Journal.l with
      | nil => rw [h] at hle; simp at hle
      | cons x r => rfl
     rw [this]
    rw [e]
    simp only [stB, blK, sqK, if_true]
    simp [fits_al]
    exact (purT_al (purL_setv (purL_d _ (b.Books.bare).dv.cells) rfl (by simp) (by simp; omega))).trans (by rw [← List.map_take]; rfl)
end Go.Sim
end
end
section
open Go.Sim
attribute [local simp ↓] kC_skip kC_ret kC_exit kC_seq kC_block kC_reg kC_cond kC_condc sqK blK lpK kO_nil kO_O kO_E kO_OG kO_EG grd_b grd_t tst_b brn_true brn_false brn_not chk_T b_mov b_pick b_alloc b_box b_load b_store b_bin b_un b_eqv b_faddr b_field b_iaddr b_sl b_len b_app b_call b_call1 b_callR b_ext bo_some bo_none bo2_some bo2_none bo_iaddr bo_addS bo_quo bo_rem bo_bnd bo_bnd0 ld_q0 ld_qw ld_p subP0 subPw bo_moveP bo_moveQ bo_lenl bo_lens bo_lenr bo_add bo_sub bo_mul bo_eql bo_neq bo_lss bo_leq bo_gtr bo_geq bo_neg bo_not bo_eqS bo_neS grd_nb b_slS slSK_s extK_t ownL_l fin_ret fin_norm bo_res0 bo_rest bo_resc st_p stK_box b_callv callvK_f0 callvK_f1 mkf_b subPs ld_qs kC_regS0 kC_regS1 kC_regS2 kC_regS3 kC_regS4 kC_regS5 b_eqb eqbK_b
attribute [local simp] K_refl obj_0 obj_s get_c get_n drop_c drop_n set_c set_n fix_c fix_n rd IOp.adds nadds gh nid rgK rdS ghosts_c ghosts_n packed1 packed2 purT_b purT_i purT_s purT_a purT_lt purT_lf K_ss K_ns K_sn plains_n plains_c env_val env_ref purs_n purs_d put_0 put_s
section
namespace Go.Sim
set_option maxRecDepth 10000
set_option maxHeartbeats 8000000
def okCal (c : ACalendar) : Bool := !(decide (40 < c.Holidays.l.length) || decide (10 < c.Weekend.l.length))
def okEnt (e : AEntry) : Bool := !decide (12 < e.Legs.l.length)
theorem lp85_0 (T : Tab) (b : ABooks) (hn : b.Calendars.l.length ≤ maxLen) {k : KC (PV × Bool)} {r : Option (PV × Bool)} {fr : Fr} {H : Heap} (hr : RetF 2 k r) (h0 : gc [1, 3] 0 ⟨fr, H⟩ = ⟨[(3, .d (I 0)), (1, .p 0 0 0)], [some (.box (K1 22) (.d b.dv))]⟩) :
  kC T.env 0 fr H (.h (.loop [1, 3] L85_0, k)) = brn (b.Calendars.l.all okCal) (.h (k (.exit 0) [(55, .d (.b false)), (3, .d (I b.Calendars.l.length)), (1, .p 0 0 0)] [some (.box (K1 22) (.d b.dv))], r)) := by
 have hm := mxl
 rw [loop_rounds b.Calendars.l (fun i _ => ⟨[(3, .d (I i)), (1, .p 0 0 0)], [some (.box (K1 22) (.d b.dv))]⟩) (fun _ _ => True) (fun i _ x c => if okCal x = true then c () else r) (fun _ => k (.exit 0) [(55, .d (.b false)), (3, .d (I b.Calendars.l.length)), (1, .p 0 0 0)] [some (.box (K1 22) (.d b.dv))]) ?_ ?_ h0 trivial]
 ·rw [rounds_all okCal r]
  ·cases b.Calendars.l.all okCal <;> rfl
  ·exact fun _ _ _ _ => rfl
 ·intro B _ _ _
  simp [L85_0]
 ·intro B _ i _ hi _ c hc
  have h1 : (i : Int) < b.Calendars.l.length := by omega
  have h3 := wr1 (i := i) (by omega)
  simp [L85_0, h1, hi]
  repeat' (refine brn_split (fun h => ?_) (fun h => ?_) <;> (try simp at h) <;> (try simp [h, h1, hi, h3]))
  all_goals first
   | (rw [if_neg (by simp [okCal]; omega)]; exact hr _ _ (by simp [Fr.get]) (by simp [ghosts, gh]))
   | (rw [if_pos (by simp [okCal]; omega)]; exact hc () _ _ trivial (by simp [gc, Fr.keep, reach, frRefs, heapRefs, PV.refs, place, gcH, orefs, Obj.refs, PV.ren, Obj.ren, Heap.obj, Fr.ren, gh, List.idxOf?_cons]))
theorem lp85_1 (T : Tab) (b : ABooks) (hn : b.Journal.l.length ≤ maxLen) {k : KC (PV × Bool)} {r : Option (PV × Bool)} {fr : Fr} {H : Heap} (hr : RetF 2 k r) (h0 : gc [1, 4] 0 ⟨fr, H⟩ = ⟨[(4, .d (I 0)), (1, .p 0 0 0)], [some (.box (K1 22) (.d b.dv))]⟩) :
  kC T.env 0 fr H (.h (.loop [1, 4] L85_1, k)) = brn (b.Journal.l.all okEnt) (.h (k (.exit 2) [(80, .d (.b false)), (4, .d (I b.Journal.l.length)), (1, .p 0 0 0)] [some (.box (K1 22) (.d b.dv))], r)) := by
 have hm := mxl
 rw [loop_rounds b.Journal.l (fun i _ => ⟨[(4, .d (I i)), (1, .p 0 0 0)], [some (.box (K1 22) (.d b.dv))]⟩) (fun _ _ => True) (fun i _ x c => if okEnt x = true then c () else r) (fun _ => k (.exit 2) [(80, .d (.b false)), (4, .d (I b.Journal.l.length)), (1, .p 0 0 0)] [some (.box (K1 22) (.d b.dv))]) ?_ ?_ h0 trivial]
 ·rw [rounds_all okEnt r]
  ·cases b.Journal.l.all okEnt <;> rfl
  ·exact fun _ _ _ _ => rfl
 ·intro B _ _ _
  simp [L85_1]
 ·intro B _ i _ hi _ c hc
  have h1 : (i : Int) < b.Journal.l.length := by omega
  have h3 := wr1 (i := i) (by omega)
  simp [L85_1, h1, hi]
  repeat' (refine brn_split (fun h => ?_) (fun h => ?_) <;> (try simp at h) <;> (try simp [h3]))
  all_goals first
   | (rw [if_neg (by simp [okEnt]; omega)]; exact hr _ _ (by simp [Fr.get]) (by simp [ghosts, gh]))
   | (rw [if_pos (by simp [okEnt]; omega)]; exact hc () _ _ trivial (by simp [gc, Fr.keep, reach, frRefs, heapRefs, PV.refs, place, gcH, orefs, Obj.refs, PV.ren, Obj.ren, Heap.obj, Fr.ren, gh, List.idxOf?_cons]))
def bFew (b : ABooks) : Bool := !(decide (8 < b.Accounts.l.length) || decide (90 < b.Journal.l.length) || decide (40 < b.Chart.l.length) || decide (12 < b.Products.l.length) || decide (4 < b.Calendars.l.length) || decide (20 < b.Holds.l.length) || decide (20 < b.Blocks.l.length) || decide (8 < b.Currencies.l.length)) && (b.Calendars.l.all okCal && b.Journal.l.all okEnt)
theorem val85 (T : Tab) (hF : T.F 85 = some F85) (b : ABooks) (hb : b.ok) : T.val 85 [b.dv] = some (.d (.b (bFew b)), false) := by
 rw [val_k T hF rfl]
 have lp0 := fun k fr H => @lp85_0 T b (hb.2.1).1 k (some (.d (.b false), false)) fr H
 have lp1 := fun k fr H => @lp85_1 T b (hb.2.2.2.2.2.2.1).1 k (some (.d (.b false), false)) fr H
 obtain ⟨q0, hq0⟩ : ∃ q, b.Calendars.l.all okCal = q := ⟨_, rfl⟩
 obtain ⟨q1, hq1⟩ : ∃ q, b.Journal.l.all okEnt = q := ⟨_, rfl⟩
 simp only [hq0] at lp0
 simp only [hq1] at lp1
 have hs : bFew b = (!(decide (8 < b.Accounts.l.length) || decide (90 < b.Journal.l.length) || decide (40 < b.Chart.l.length) || decide (12 < b.Products.l.length) || decide (4 < b.Calendars.l.length) || decide (20 < b.Holds.l.length) || decide (20 < b.Blocks.l.length) || decide (8 < b.Currencies.l.length)) && (q0 && q1)) := by rw [bFew, hq0, hq1]
 clear hq0 hq1
 simp [F85, Fr.ofArgs]
 repeat' first
  | (refine brn_split (fun h => ?_) (fun h => ?_) <;> (try simp at h) <;> (try simp [h]))
  | refine (lp0 _ _ _ (by simp [RetF_bl, RetF_sq, RetF_fin]) (by simp [gc, Fr.keep, reach, frRefs, heapRefs, PV.refs, place, gcH, orefs, Obj.refs, PV.ren, Obj.ren, Heap.obj, Fr.ren, gh, List.idxOf?_cons])).trans ?_
  | refine (lp1 _ _ _ (by simp [RetF_bl, RetF_sq, RetF_fin]) (by simp [gc, Fr.keep, reach, frRefs, heapRefs, PV.refs, place, gcH, orefs, Obj.refs, PV.ren, Obj.ren, Heap.obj, Fr.ren, gh, List.idxOf?_cons])).trans ?_
 all_goals simp_all
 all_goals omega
end Go.Sim
end
section
namespace Go.Sim
set_option maxRecDepth 10000
set_option maxHeartbeats 8000000
def dayOK (b : ABank) : Bool := decide (0 ≤ b.Day) && decide (b.Day ≤ 73048)
def okAcc (b : ABank) (a : AAccount) : Bool := !(decide (0 ≤ a.Opened) && decide (a.Opened < b.Day - 800))
def okPe1 (b : ABank) (p : APeriod) : Bool := !decide (b.Day + 400 < p.To)
def okPe2 (p : APeriod) : Bool := !decide (1099511627776 < p.Count)
def okLn (l : ALoan) : Bool := !(decide (60 < l.Dues.l.length) || decide (10 < l.Changes.l.length))
theorem lp77_0 (T : Tab) (b : ABank) (hn : b.Books.Accounts.l.length ≤ maxLen) {k : KC (PV × Bool)} {r r1 : Option (PV × Bool)} {fr : Fr} {H : Heap} (hr : RetF 2 k r) (he : ∀ i : Nat, k (.exit 0) [(101, .d (.b false)), (3, .d (I i)), (1, .p 0 0 0)] [some (.box (K1 42) (.d b.dv))] = r1) (h0 : gc [1, 3] 0 ⟨fr, H⟩ = ⟨[(3, .d (I 0)), (1, .p 0 0 0)], [some (.box (K1 42) (.d b.dv))]⟩) :
  kC T.env 0 fr H (.h (.loop [1, 3] L77_0, k)) = brn (!dayOK b || b.Books.Accounts.l.all (okAcc b)) (.h (r1, r)) := by
 have hm := mxl
 by_cases hd : dayOK b = true
 ·have hd' := hd
  simp only [dayOK, Bool.and_eq_true, decide_eq_true_eq] at hd'
  obtain ⟨hd1, hd2⟩ := hd'
  rw [loop_rounds b.Books.Accounts.l (fun i _ => ⟨[(3, .d (I i)), (1, .p 0 0 0)], [some (.box (K1 42) (.d b.dv))]⟩) (fun _ _ => True) (fun i _ x c => if okAcc b x = true then c () else r) (fun _ => r1) ?_ ?_ h0 trivial]
  ·rw [rounds_all (okAcc b) r, hd]
   ·cases b.Books.Accounts.l.all (okAcc b) <;> rfl
   ·exact fun _ _ _ _ => rfl
  ·intro B _ _ _
   simp [L77_0, he]
  ·intro B _ i _ hi _ c hc
   have h1 : (i : Int) < b.Books.Accounts.l.length := by omega
   have h3 := wr1 (i := i) (by omega)
   have h4 : IntKind.i64.wrap (b.Day - 800) = b.Day - 800 := wrI (by omega) (by omega)
   have h5 : IntKind.i64.wrap (b.Day + 400) = b.Day + 400 := wrI (by omega) (by omega)
   simp [L77_0, hd1, hd2, h1, hi]
   repeat' (refine brn_split (fun h => ?_) (fun h => ?_) <;> (try simp at h) <;> (try simp [h, h3, h4]))
   all_goals first
    | (rw [if_neg (by simp [okAcc]; omega)]; exact hr _ _ (by simp [Fr.get]) (by simp [ghosts, gh]))
    | (rw [if_pos (by simp [okAcc]; omega)]; exact hc () _ _ trivial (by simp [gc, Fr.keep, reach, frRefs, heapRefs, PV.refs, place, gcH, orefs, Obj.refs, PV.ren, Obj.ren, Heap.obj, Fr.ren, gh, List.idxOf?_cons]))
 ·have hd' : dayOK b = false := by simpa using hd
  rw [kC_loop, h0, hd']
  simp only [dayOK, Bool.and_eq_false_iff, decide_eq_false_iff_not] at hd'
  have he0 := he 0
  simp [L77_0]
  repeat' (refine brn_split (fun h => ?_) (fun h => ?_) <;> (try simp at h) <;> (try simp [h]))
  all_goals first
   | exact he0
   | (simpa using he0)
   | (exfalso; omega)
theorem lp77_1 (T : Tab) (b : ABank) (hn : b.Periods.l.length ≤ maxLen) {k : KC (PV × Bool)} {r r1 : Option (PV × Bool)} {fr : Fr} {H : Heap} (hr : RetF 2 k r) (he : ∀ i : Nat, k (.exit 2) [(134, .d (.b false)), (5, .d (I i)), (1, .p 0 0 0)] [some (.box (K1 42) (.d b.dv))] = r1) (h0 : gc [1, 5] 0 ⟨fr, H⟩ = ⟨[(5, .d (I 0)), (1, .p 0 0 0)], [some (.box (K1 42) (.d b.dv))]⟩) :
  kC T.env 0 fr H (.h (.loop [1, 5] L77_1, k)) = brn (!dayOK b || b.Periods.l.all (okPe1 b)) (.h (r1, r)) := by
 have hm := mxl
 by_cases hd : dayOK b = true
 ·have hd' := hd
  simp only [dayOK, Bool.and_eq_true, decide_eq_true_eq] at hd'
  obtain ⟨hd1, hd2⟩ := hd'
  rw [loop_rounds b.Periods.l (fun i _ => ⟨[(5, .d (I i)), (1, .p 0 0 0)], [some (.box (K1 42) (.d b.dv))]⟩) (fun _ _ => True) (fun i _ x c => if okPe1 b x = true then c () else r) (fun _ => r1) ?_ ?_ h0 trivial]
  ·rw [rounds_all (okPe1 b) r, hd]
   ·cases b.Periods.l.all (okPe1 b) <;> rfl
   ·exact fun _ _ _ _ => rfl
  ·intro B _ _ _
   simp [L77_1, he]
  ·intro B _ i _ hi _ c hc
   have h1 : (i : Int) < b.Periods.l.length := by omega
   have h3 := wr1 (i := i) (by omega)
   have h4 : IntKind.i64.wrap (b.Day - 800) = b.Day - 800 := wrI (by omega) (by omega)
   have h5 : IntKind.i64.wrap (b.Day + 400) = b.Day + 400 := wrI (by omega) (by omega)
   simp [L77_1, hd1, hd2, h1, hi, h5]
   repeat' (refine brn_split (fun h => ?_) (fun h => ?_) <;> (try simp at h) <;> (try simp [h3]))
   all_goals first
    | (rw [if_neg (by simp [okPe1]; omega)]; exact hr _ _ (by simp [Fr.get]) (by simp [ghosts, gh]))
    | (rw [if_pos (by simp [okPe1]; omega)]; exact hc () _ _ trivial (by simp [gc, Fr.keep, reach, frRefs, heapRefs, PV.refs, place, gcH, orefs, Obj.refs, PV.ren, Obj.ren, Heap.obj, Fr.ren, gh, List.idxOf?_cons]))
 ·have hd' : dayOK b = false := by simpa using hd
  rw [kC_loop, h0, hd']
  simp only [dayOK, Bool.and_eq_false_iff, decide_eq_false_iff_not] at hd'
  have he0 := he 0
  simp [L77_1]
  repeat' (refine brn_split (fun h => ?_) (fun h => ?_) <;> (try simp at h) <;> (try simp [h]))
  all_goals first
   | exact he0
   | (simpa using he0)
   | (exfalso; omega)
theorem lp77_2 (T : Tab) (b : ABank) (hn : b.Periods.l.length ≤ maxLen) {k : KC (PV × Bool)} {r : Option (PV × Bool)} {fr : Fr} {H : Heap} (hr : RetF 2 k r) (h0 : gc [1, 6] 0 ⟨fr, H⟩ = ⟨[(6, .d (I 0)), (1, .p 0 0 0)], [some (.box (K1 42) (.d b.dv))]⟩) :
  kC T.env 0 fr H (.h (.loop [1, 6] L77_2, k)) = brn (b.Periods.l.all okPe2) (.h (k (.exit 4) [(151, .d (.b false)), (6, .d (I b.Periods.l.length)), (1, .p 0 0 0)] [some (.box (K1 42) (.d b.dv))], r)) := by
 have hm := mxl
 rw [loop_rounds b.Periods.l (fun i _ => ⟨[(6, .d (I i)), (1, .p 0 0 0)], [some (.box (K1 42) (.d b.dv))]⟩) (fun _ _ => True) (fun i _ x c => if okPe2 x = true then c () else r) (fun _ => k (.exit 4) [(151, .d (.b false)), (6, .d (I b.Periods.l.length)), (1, .p 0 0 0)] [some (.box (K1 42) (.d b.dv))]) ?_ ?_ h0 trivial]
 ·rw [rounds_all okPe2 r]
  ·cases b.Periods.l.all okPe2 <;> rfl
  ·exact fun _ _ _ _ => rfl
 ·intro B _ _ _
  simp [L77_2]
 ·intro B _ i _ hi _ c hc
  have h1 : (i : Int) < b.Periods.l.length := by omega
  have h3 := wr1 (i := i) (by omega)
  simp [L77_2, h1, hi]
  repeat' (refine brn_split (fun h => ?_) (fun h => ?_) <;> (try simp at h) <;> (try simp [h3]))
  all_goals first
   | (rw [if_neg (by simp [okPe2]; omega)]; exact hr _ _ (by simp [Fr.get]) (by simp [ghosts, gh]))
   | (rw [if_pos (by simp [okPe2]; omega)]; exact hc () _ _ trivial (by simp [gc, Fr.keep, reach, frRefs, heapRefs, PV.refs, place, gcH, orefs, Obj.refs, PV.ren, Obj.ren, Heap.obj, Fr.ren, gh, List.idxOf?_cons]))
theorem lp77_3 (T : Tab) (b : ABank) (hn : b.Loans.l.length ≤ maxLen) {k : KC (PV × Bool)} {r : Option (PV × Bool)} {fr : Fr} {H : Heap} (hr : RetF 2 k r) (h0 : gc [1, 7] 0 ⟨fr, H⟩ = ⟨[(7, .d (I 0)), (1, .p 0 0 0)], [some (.box (K1 42) (.d b.dv))]⟩) :
  kC T.env 0 fr H (.h (.loop [1, 7] L77_3, k)) = brn (b.Loans.l.all okLn) (.h (k (.exit 6) [(169, .d (.b false)), (7, .d (I b.Loans.l.length)), (1, .p 0 0 0)] [some (.box (K1 42) (.d b.dv))], r)) := by
 have hm := mxl
 rw [loop_rounds b.Loans.l (fun i _ => ⟨[(7, .d (I i)), (1, .p 0 0 0)], [some (.box (K1 42) (.d b.dv))]⟩) (fun _ _ => True) (fun i _ x c => if okLn x = true then c () else r) (fun _ => k (.exit 6) [(169, .d (.b false)), (7, .d (I b.Loans.l.length)), (1, .p 0 0 0)] [some (.box (K1 42) (.d b.dv))]) ?_ ?_ h0 trivial]
 ·rw [rounds_all okLn r]
  ·cases b.Loans.l.all okLn <;> rfl
  ·exact fun _ _ _ _ => rfl
 ·intro B _ _ _
  simp [L77_3]
 ·intro B _ i _ hi _ c hc
  have h1 : (i : Int) < b.Loans.l.length := by omega
  have h3 := wr1 (i := i) (by omega)
  simp [L77_3, h1, hi]
  repeat' (refine brn_split (fun h => ?_) (fun h => ?_) <;> (try simp at h) <;> (try simp [h, h1, hi, h3]))
  all_goals first
   | (rw [if_neg (by simp [okLn]; omega)]; exact hr _ _ (by simp [Fr.get]) (by simp [ghosts, gh]))
   | (rw [if_pos (by simp [okLn]; omega)]; exact hc () _ _ trivial (by simp [gc, Fr.keep, reach, frRefs, heapRefs, PV.refs, place, gcH, orefs, Obj.refs, PV.ren, Obj.ren, Heap.obj, Fr.ren, gh, List.idxOf?_cons]))
end Go.Sim
end
section
namespace Go.Sim
set_option maxRecDepth 10000
set_option maxHeartbeats 8000000
def smHead (x : ABank) : Bool := !(!bFew x.Books || decide (60 < x.Periods.l.length) || decide (8 < x.Loans.l.length) || decide (20 < x.Orders.l.length) || decide (20 < x.Mandates.l.length) || decide (20 < x.Debits.l.length) || decide (20 < x.Inbox.l.length) || decide (40 < x.Statements.l.length) || decide (20 < x.Users.l.length) || decide (20 < x.Requests.l.length) || decide (90 < x.Trail.l.length) || decide (20 < x.Night.Avail.l.length) || decide (20 < x.Night.Queue.l.length))
def sm3 (x : ABank) : Bool := x.Loans.l.all okLn
def sm2 (x : ABank) : Bool := x.Periods.l.all okPe2 && (!decide (1099511627776 < x.Run.Restarts) && sm3 x)
def sm1 (x : ABank) : Bool := (!dayOK x || x.Periods.l.all (okPe1 x)) && sm2 x
def sm0 (x : ABank) : Bool := (!dayOK x || x.Books.Accounts.l.all (okAcc x)) && sm1 x
def bSmall (x : ABank) : Bool := smHead x && sm0 x
theorem brn_and {a b : Bool} : brn a (.h (some (PV.d (.b b), false), some (PV.d (.b false), false))) = some (PV.d (.b (a && b)), false) := by cases a <;> rfl
theorem brn_an {a b : Bool} {x : Option (PV × Bool)} (h : x = some (PV.d (.b b), false)) : brn a (.h (x, some (PV.d (.b false), false))) = some (PV.d (.b (a && b)), false) := by subst h; exact brn_and
theorem val77 (T : Tab) (hF : T.F 77 = some F77) (hG : T.F 85 = some F85) (x : ABank) (hx : x.ok) : T.val 77 [x.dv] = some (.d (.b (bSmall x)), false) := by
 rw [val_k T hF rfl]
 have d0 := val85 T hG x.Books hx.2.2.2.1
 have lp0 := fun k fr H => @lp77_0 T x (hx.2.2.2.1.2.2.2.2.2.1).1 k (some (.d (.b false), false)) (some (.d (.b (sm1 x)), false)) fr H
 have lp1 := fun k fr H => @lp77_1 T x (hx.2.2.2.2.1).1 k (some (.d (.b false), false)) (some (.d (.b (sm2 x)), false)) fr H
 have lp2 := fun k fr H => @lp77_2 T x (hx.2.2.2.2.1).1 k (some (.d (.b false), false)) fr H
 have lp3 := fun k fr H => @lp77_3 T x (hx.2.2.2.2.2.1).1 k (some (.d (.b false), false)) fr H
 simp [F77, Fr.ofArgs, d0]
 repeat' (refine brn_split (fun h => ?_) (fun h => ?_) <;> (try simp at h) <;> (try simp [h]))
 all_goals (try (simp_all [bSmall, smHead]; done))
 all_goals (try (simp_all [bSmall, smHead]; omega))
 have hh : smHead x = true := by
  simp_all [smHead]
  try omega
 rw [bSmall, hh, Bool.true_and, sm0]
 refine (lp0 _ _ _ (by simp [RetF_bl, RetF_sq, RetF_fin]) (fun i => ?_) (by simp [gc, Fr.keep, reach, frRefs, heapRefs, PV.refs, place, gcH, orefs, Obj.refs, PV.ren, Obj.ren, Heap.obj, Fr.ren, gh, List.idxOf?_cons])).trans brn_and
 simp
 rw [sm1]
 refine (lp1 _ _ _ (by simp [RetF_bl, RetF_sq, RetF_fin]) (fun i => ?_) (by simp [gc, Fr.keep, reach, frRefs, heapRefs, PV.refs, place, gcH, orefs, Obj.refs, PV.ren, Obj.ren, Heap.obj, Fr.ren, gh, List.idxOf?_cons])).trans brn_and
 simp
 rw [sm2]
 refine (lp2 _ _ _ (by simp [RetF_bl, RetF_sq, RetF_fin]) (by simp [gc, Fr.keep, reach, frRefs, heapRefs, PV.refs, place, gcH, orefs, Obj.refs, PV.ren, Obj.ren, Heap.obj, Fr.ren, gh, List.idxOf?_cons])).trans ?_
 refine brn_an ?_
 simp
 refine brn_split (fun h => ?_) (fun h => ?_)
 ·simp at h
  simp [h]
 ·simp at h
  have h' : ¬ (1099511627776 < x.Run.Restarts) := by omega
  simp [h']
  refine (lp3 _ _ _ (by simp [RetF_bl, RetF_sq, RetF_fin]) (by simp [gc, Fr.keep, reach, frRefs, heapRefs, PV.refs, place, gcH, orefs, Obj.refs, PV.ren, Obj.ren, Heap.obj, Fr.ren, gh, List.idxOf?_cons])).trans ?_
  rw [sm3]
  have e := fun (X : Option (PV × Bool)) (h : X = some (PV.d (.b true), false)) => @brn_an (x.Loans.l.all okLn) true X h
  simp only [Bool.and_true] at e
  refine e _ ?_
  simp
end Go.Sim
end
section
namespace Go.Sim
set_option maxRecDepth 10000
set_option maxHeartbeats 8000000
end Go.Sim
end
end
section
namespace Go.Sim
def bqBk (x y : ABooks) : Bool := lsb ACurrency.beq x.Currencies.l y.Currencies.l && lsb AGl.beq x.Chart.l y.Chart.l && APlan.beq x.Plan y.Plan && lsb ACalendar.beq x.Calendars.l y.Calendars.l && lsb AProduct.beq x.Products.l y.Products.l
end Go.Sim
end
section
open Go.Sim
attribute [local simp ↓] kC_skip kC_ret kC_exit kC_seq kC_block kC_reg kC_cond kC_condc sqK blK lpK kO_nil kO_O kO_E kO_OG kO_EG grd_b grd_t tst_b brn_true brn_false brn_not chk_T b_mov b_pick b_alloc b_box b_load b_store b_bin b_un b_eqv b_faddr b_field b_iaddr b_sl b_len b_app b_call b_call1 b_callR b_ext bo_some bo_none bo2_some bo2_none bo_iaddr bo_addS bo_quo bo_rem bo_bnd bo_bnd0 ld_q0 ld_qw ld_p subP0 subPw bo_moveP bo_moveQ bo_lenl bo_lens bo_lenr bo_add bo_sub bo_mul bo_eql bo_neq bo_lss bo_leq bo_gtr bo_geq bo_neg bo_not bo_eqS bo_neS grd_nb b_slS slSK_s extK_t ownL_l fin_ret fin_norm bo_res0 bo_rest bo_resc st_p stK_box b_callv callvK_f0 callvK_f1 mkf_b subPs ld_qs kC_regS0 kC_regS1 kC_regS2 kC_regS3 kC_regS4 kC_regS5 b_eqb eqbK_b
attribute [local simp] K_refl obj_0 obj_s get_c get_n drop_c drop_n set_c set_n fix_c fix_n rd IOp.adds nadds gh nid rgK rdS ghosts_c ghosts_n packed1 packed2 purT_b purT_i purT_s purT_a purT_lt purT_lf K_ss K_ns K_sn plains_n plains_c env_val env_ref purs_n purs_d put_0 put_s
section
namespace Go.Sim
set_option maxRecDepth 10000
set_option maxHeartbeats 8000000
end Go.Sim
end
section
namespace Go.Sim
set_option maxRecDepth 10000
set_option maxHeartbeats 8000000
end Go.Sim
end
section
namespace Go.Sim
set_option maxRecDepth 10000
set_option maxHeartbeats 8000000
end Go.Sim
end
section
namespace Go.Sim
set_option maxRecDepth 10000
set_option maxHeartbeats 8000000
end Go.Sim
end
section
namespace Go.Sim
set_option maxRecDepth 10000
set_option maxHeartbeats 8000000
end Go.Sim
end
section
namespace Go.Sim
set_option maxRecDepth 10000
set_option maxHeartbeats 8000000
end Go.Sim
end
section
namespace Go.Sim
set_option maxRecDepth 10000
set_option maxHeartbeats 8000000
theorem val301 (T : Tab) (hT : ∀ n F, tabC.get n = some F → T.F n = some F) (x y : AInterest) (hx : x.ok) : T.val 301 [x.dv, y.dv] = some (.d (.b (AInterest.beq x y)), false) := by
 rw [val_k T (hT 301 F301 rfl) rfl]
 by_cases hl0 : x.Tiers.l.length = y.Tiers.l.length
 rotate_left
 ·have hl0' : ((x.Tiers.l.length : Int) == (y.Tiers.l.length : Int)) = false := by simp; omega
  simp [F301, Fr.ofArgs, hl0', bne]
  repeat' (refine brn_split (fun h => ?_) (fun h => ?_) <;> (try simp at h) <;> (try simp [h, hl0, hl0', bne]))
  all_goals simp_all [AInterest.beq, ibq, bbq, lsb_len _ _ hl0]
 obtain ⟨z0, hx0, hy0⟩ := zip_of x.Tiers.l y.Tiers.l hl0
 have hn0 : z0.length ≤ maxLen := by have := (hx.1).1; rw [hx0] at this; simpa using this
 have lp0 := fun k fr H => @lp301_0 T x y z0 hx0 hy0 hn0 k (some (.d (.b false), false)) fr H
 have hz0 : lsb ATier.beq x.Tiers.l y.Tiers.l = z0.all fun p => ATier.beq p.1 p.2 := by rw [hx0, hy0, lsb_zip]
 obtain ⟨q0, hq0⟩ : ∃ q, (z0.all fun p => ATier.beq p.1 p.2) = q := ⟨_, rfl⟩
 simp only [hq0] at lp0 hz0
 clear hq0
 simp [F301, Fr.ofArgs, hx0, hy0]
 repeat' first
  | (refine brn_split (fun h => ?_) (fun h => ?_) <;> (try simp at h) <;> (try simp [h, hx0, hy0]))
  | refine (lp0 _ _ _ (by simp [RetF_bl, RetF_sq, RetF_fin]) (by simp [gc, Fr.keep, reach, frRefs, heapRefs, PV.refs, place, gcH, orefs, Obj.refs, PV.ren, Obj.ren, Heap.obj, Fr.ren, gh, List.idxOf?_cons])).trans ?_
 all_goals simp_all [AInterest.beq, ibq, bbq]
end Go.Sim
end
section
namespace Go.Sim
set_option maxRecDepth 10000
set_option maxHeartbeats 4000000
theorem lp303_0 (T : Tab) (x y : AExpr) (z : List (AExpr × AExpr)) (hx : x.Args.l = (z.map Prod.fst).map AExpr.dv) (hy : y.Args.l = (z.map Prod.snd).map AExpr.dv) (hv : ∀ p ∈ z, T.val 303 [AExpr.dv p.1, AExpr.dv p.2] = some (.d (.b (AExpr.beq p.1 p.2)), false)) (hn : z.length ≤ maxLen) {k : KC (PV × Bool)} {r : Option (PV × Bool)} {fr : Fr} {H : Heap} (hr : RetF 4 k r) (h0 : gc [2, 3, 5] 0 ⟨fr, H⟩ = ⟨[(5, .d (I 0)), (3, .p 0 0 0), (2, .p 1 0 0)], [some (.box (K1 4) (.d y.dv)), some (.box (K1 4) (.d x.dv))]⟩) :
  kC T.env 0 fr H (.h (.loop [2, 3, 5] L303_0, k)) = brn (z.all fun p => AExpr.beq p.1 p.2) (.h (k (.exit 0) [(38, .d (.b false)), (5, .d (I z.length)), (3, .p 0 0 0), (2, .p 1 0 0)] [some (.box (K1 4) (.d y.dv)), some (.box (K1 4) (.d x.dv))], r)) := by
 have hm := mxl
 rw [loop_rounds z (fun i _ => ⟨[(5, .d (I i)), (3, .p 0 0 0), (2, .p 1 0 0)], [some (.box (K1 4) (.d y.dv)), some (.box (K1 4) (.d x.dv))]⟩) (fun _ _ => True) (fun i _ p c => if AExpr.beq p.1 p.2 = true then c () else r) (fun _ => k (.exit 0) [(38, .d (.b false)), (5, .d (I z.length)), (3, .p 0 0 0), (2, .p 1 0 0)] [some (.box (K1 4) (.d y.dv)), some (.box (K1 4) (.d x.dv))]) ?_ ?_ h0 trivial]
 ·rw [rounds_all (fun p => AExpr.beq p.1 p.2) r]
  ·cases z.all fun p => AExpr.beq p.1 p.2 <;> rfl
  ·exact fun _ _ _ _ => rfl
 ·intro B _ _ _
  simp [L303_0, hx]
 ·intro B _ i _ hi _ c hc
  have h1 : (i : Int) < z.length := by omega
  have h3 := wr1 (i := i) (by omega)
  have he := hv z[i] (List.getElem_mem hi)
  simp [L303_0, h1, hi, he, hx, hy]
  repeat' (refine brn_split (fun h => ?_) (fun h => ?_) <;> (try simp at h) <;> (try simp [h, h3]))
  all_goals first
   | exact hr _ _ (by simp [Fr.get]) (by simp [ghosts, gh])
   | exact hc () _ _ trivial (by simp [gc, Fr.keep, reach, frRefs, heapRefs, PV.refs, place, gcH, orefs, Obj.refs, PV.ren, Obj.ren, Heap.obj, Fr.ren, gh, List.idxOf?_cons])
theorem val303_n (T : Tab) (hT : ∀ n F, tabC.get n = some F → T.F n = some F) : ∀ (n : Nat) (x y : AExpr), SizeOf.sizeOf x.dv < n → x.ok → y.ok → T.val 303 [x.dv, y.dv] = some (.d (.b (AExpr.beq x y)), false)
 | 0, _, _, h, _, _ => absurd h (Nat.not_lt_zero _)
 | n + 1, x, y, hs, hx, hy => by
  obtain ⟨hlen, l, hl, hlo⟩ := axs_of hx.2.2.2
  obtain ⟨_, m, hm, hmo⟩ := axs_of hy.2.2.2
  rw [val_k T (hT 303 F303 rfl) rfl]
  by_cases hll : l.length = m.length
  rotate_left
  ·have hll' : ((l.length : Int) == (m.length : Int)) = false := by simp; omega
   simp [F303, Fr.ofArgs, bne]
   repeat' (refine brn_split (fun h => ?_) (fun h => ?_) <;> (try simp at h) <;> (try simp [h, hl, hm, hll', bne]))
   all_goals simp_all [AExpr.beq, ibq, sbq, deqL_dv, lsb_len _ _ hll]
  obtain ⟨z, rfl, rfl⟩ := zip_of l m hll
  have hn : z.length ≤ maxLen := by rw [hl] at hlen; simpa using hlen
  have lp := fun k fr H => @lp303_0 T x y z hl hm (fun p hp => val303_n T hT n p.1 p.2 (by have := arg_lt (x := x) (a := p.1) (by rw [hl]; exact List.mem_map_of_mem (List.mem_map_of_mem hp)); omega) (hlo _ (List.mem_map_of_mem hp)) (hmo _ (List.mem_map_of_mem hp))) hn k (some (.d (.b false), false)) fr H
  have hz : deqL x.Args.l y.Args.l = z.all fun p => AExpr.beq p.1 p.2 := by rw [hl, hm, deqL_dv, lsb_zip]
  obtain ⟨q, hq⟩ : ∃ q, (z.all fun p => AExpr.beq p.1 p.2) = q := ⟨_, rfl⟩
  simp only [hq] at lp hz
  clear hq
  simp [F303, Fr.ofArgs]
  repeat' first
   | (refine brn_split (fun h => ?_) (fun h => ?_) <;> (try simp at h) <;> (try simp [h, hl, hm]))
   | refine (lp _ _ _ (by simp [RetF_bl, RetF_sq, RetF_fin]) (by simp [gc, Fr.keep, reach, frRefs, heapRefs, PV.refs, place, gcH, orefs, Obj.refs, PV.ren, Obj.ren, Heap.obj, Fr.ren, gh, List.idxOf?_cons])).trans ?_
  all_goals simp_all [AExpr.beq, ibq, sbq]
theorem val303 (T : Tab) (hT : ∀ n F, tabC.get n = some F → T.F n = some F) (x y : AExpr) (hx : x.ok) (hy : y.ok) : T.val 303 [x.dv, y.dv] = some (.d (.b (AExpr.beq x y)), false) := val303_n T hT _ x y (Nat.lt_succ_self _) hx hy
end Go.Sim
end
section
namespace Go.Sim
set_option maxRecDepth 10000
set_option maxHeartbeats 8000000
theorem lp224_0 (T : Tab) (hT : ∀ n F, tabC.get n = some F → T.F n = some F) (x y : AProduct) (z : List (ARule × ARule)) (hx : x.Rules.l = z.map Prod.fst) (hy : y.Rules.l = z.map Prod.snd) (ho : ∀ p ∈ z, p.1.ok ∧ p.2.ok) (hn : z.length ≤ maxLen) {k : KC (PV × Bool)} {r : Option (PV × Bool)} {fr : Fr} {H : Heap} (hr : RetF 4 k r) (h0 : gc [2, 3, 5] 0 ⟨fr, H⟩ = ⟨[(5, .d (I 0)), (3, .p 0 0 0), (2, .p 1 0 0)], [some (.box (K1 19) (.d y.dv)), some (.box (K1 19) (.d x.dv))]⟩) :
  kC T.env 0 fr H (.h (.loop [2, 3, 5] L224_0, k)) = brn (z.all fun p => ARule.beq p.1 p.2) (.h (k (.exit 0) [(88, .d (.b false)), (5, .d (I z.length)), (3, .p 0 0 0), (2, .p 1 0 0)] [some (.box (K1 19) (.d y.dv)), some (.box (K1 19) (.d x.dv))], r)) := by
 have hm := mxl
 rw [loop_rounds z (fun i _ => ⟨[(5, .d (I i)), (3, .p 0 0 0), (2, .p 1 0 0)], [some (.box (K1 19) (.d y.dv)), some (.box (K1 19) (.d x.dv))]⟩) (fun _ _ => True) (fun i _ p c => if ARule.beq p.1 p.2 = true then c () else r) (fun _ => k (.exit 0) [(88, .d (.b false)), (5, .d (I z.length)), (3, .p 0 0 0), (2, .p 1 0 0)] [some (.box (K1 19) (.d y.dv)), some (.box (K1 19) (.d x.dv))]) ?_ ?_ h0 trivial]
 ·rw [rounds_all (fun p => ARule.beq p.1 p.2) r]
  ·cases z.all fun p => ARule.beq p.1 p.2 <;> rfl
  ·exact fun _ _ _ _ => rfl
 ·intro B _ _ _
  simp [L224_0, hx]
 ·intro B _ i _ hi _ c hc
  have h1 : (i : Int) < z.length := by omega
  have h3 := wr1 (i := i) (by omega)
  obtain ⟨o1, o2⟩ := ho z[i] (List.getElem_mem hi)
  have e0 := val303 T hT z[i].1.Amount z[i].2.Amount o1.2.2 o2.2.2
  simp [L224_0, h1, hi, hx, hy]
  repeat' (refine brn_split (fun h => ?_) (fun h => ?_) <;> (try simp at h) <;> (try simp [h, h1, hi, h3, e0, ARule.beq, ibq, sbq, hx, hy]))
  all_goals first
   | exact hr _ _ (by simp [Fr.get]) (by simp [ghosts, gh])
   | exact hc () _ _ trivial (by simp [gc, Fr.keep, reach, frRefs, heapRefs, PV.refs, place, gcH, orefs, Obj.refs, PV.ren, Obj.ren, Heap.obj, Fr.ren, gh, List.idxOf?_cons])
   | (simp_all [ARule.beq, ibq, sbq, bbq]; first | exact hr _ _ (by simp [Fr.get]) (by simp [ghosts, gh]) | exact hc () _ _ trivial (by simp [gc, Fr.keep, reach, frRefs, heapRefs, PV.refs, PV.refsL, place, gcH, orefs, Obj.refs, PV.ren, PV.renL, Obj.ren, Heap.obj, Fr.ren, gh, List.idxOf?_cons]))
end Go.Sim
end
section
namespace Go.Sim
set_option maxRecDepth 10000
set_option maxHeartbeats 8000000
theorem lp223_0 (T : Tab) (hT : ∀ n F, tabC.get n = some F → T.F n = some F) (z : List (ACalendar × ACalendar)) (s t : Bool) (ho : ∀ p ∈ z, p.1.ok ∧ p.2.ok) (hn : z.length ≤ maxLen) {k : KC (PV × Bool)} {r : Option (PV × Bool)} {fr : Fr} {H : Heap} (hr : RetF 4 k r) (h0 : gc [0, 1, 5] 0 ⟨fr, H⟩ = ⟨[(5, .d (I 0)), (1, .d (.l (K1 3) ((z.map Prod.snd).map ACalendar.dv) t)), (0, .d (.l (K1 3) ((z.map Prod.fst).map ACalendar.dv) s))], []⟩) :
  kC T.env 0 fr H (.h (.loop [0, 1, 5] L223_0, k)) = brn (z.all fun p => ACalendar.beq p.1 p.2) (.h (k (.exit 0) [(14, .d (.b false)), (5, .d (I z.length)), (1, .d (.l (K1 3) ((z.map Prod.snd).map ACalendar.dv) t)), (0, .d (.l (K1 3) ((z.map Prod.fst).map ACalendar.dv) s))] [], r)) := by
 have hm := mxl
 rw [loop_rounds z (fun i _ => ⟨[(5, .d (I i)), (1, .d (.l (K1 3) ((z.map Prod.snd).map ACalendar.dv) t)), (0, .d (.l (K1 3) ((z.map Prod.fst).map ACalendar.dv) s))], []⟩) (fun _ _ => True) (fun i _ p c => if ACalendar.beq p.1 p.2 = true then c () else r) (fun _ => k (.exit 0) [(14, .d (.b false)), (5, .d (I z.length)), (1, .d (.l (K1 3) ((z.map Prod.snd).map ACalendar.dv) t)), (0, .d (.l (K1 3) ((z.map Prod.fst).map ACalendar.dv) s))] []) ?_ ?_ h0 trivial]
 ·rw [rounds_all (fun p => ACalendar.beq p.1 p.2) r]
  ·cases z.all fun p => ACalendar.beq p.1 p.2 <;> rfl
  ·exact fun _ _ _ _ => rfl
 ·intro B _ _ _
  simp [L223_0]
 ·intro B _ i _ hi _ c hc
  have h1 : (i : Int) < z.length := by omega
  have h3 := wr1 (i := i) (by omega)
  obtain ⟨o1, o2⟩ := ho z[i] (List.getElem_mem hi)
  have e0 := val300 T (hT 300 F300 rfl) z[i].1.Weekend.l z[i].2.Weekend.l z[i].1.Weekend.t z[i].2.Weekend.t (o1.2.1).1
  have e1 := val300 T (hT 300 F300 rfl) z[i].1.Holidays.l z[i].2.Holidays.l z[i].1.Holidays.t z[i].2.Holidays.t (o1.2.2).1
  simp [L223_0, h1, hi]
  repeat' (refine brn_split (fun h => ?_) (fun h => ?_) <;> (try simp at h) <;> (try simp [h, h1, hi, h3, e0, e1, ACalendar.beq, sbq]))
  all_goals first
   | exact hr _ _ (by simp [Fr.get]) (by simp [ghosts, gh])
   | exact hc () _ _ trivial (by simp [gc, Fr.keep, reach, frRefs, heapRefs, PV.refs, gcH, PV.ren, Obj.ren, Heap.obj, Fr.ren, gh])
   | (simp_all [ACalendar.beq, ibq, sbq, bbq]; first | exact hr _ _ (by simp [Fr.get]) (by simp [ghosts, gh]) | exact hc () _ _ trivial (by simp [gc, Fr.keep, reach, frRefs, heapRefs, PV.refs, PV.refsL, place, gcH, orefs, Obj.refs, PV.ren, PV.renL, Obj.ren, Heap.obj, Fr.ren, gh, List.idxOf?_cons]))
end Go.Sim
end
section
namespace Go.Sim
set_option maxRecDepth 10000
set_option maxHeartbeats 8000000
theorem lp302_0 (T : Tab) (hT : ∀ n F, tabC.get n = some F → T.F n = some F) (z : List (AFee × AFee)) (s t : Bool) (ho : ∀ p ∈ z, p.1.ok ∧ p.2.ok) (hn : z.length ≤ maxLen) {k : KC (PV × Bool)} {r : Option (PV × Bool)} {fr : Fr} {H : Heap} (hr : RetF 4 k r) (h0 : gc [0, 1, 5] 0 ⟨fr, H⟩ = ⟨[(5, .d (I 0)), (1, .d (.l (K1 10) ((z.map Prod.snd).map AFee.dv) t)), (0, .d (.l (K1 10) ((z.map Prod.fst).map AFee.dv) s))], []⟩) :
  kC T.env 0 fr H (.h (.loop [0, 1, 5] L302_0, k)) = brn (z.all fun p => AFee.beq p.1 p.2) (.h (k (.exit 0) [(14, .d (.b false)), (5, .d (I z.length)), (1, .d (.l (K1 10) ((z.map Prod.snd).map AFee.dv) t)), (0, .d (.l (K1 10) ((z.map Prod.fst).map AFee.dv) s))] [], r)) := by
 have hm := mxl
 rw [loop_rounds z (fun i _ => ⟨[(5, .d (I i)), (1, .d (.l (K1 10) ((z.map Prod.snd).map AFee.dv) t)), (0, .d (.l (K1 10) ((z.map Prod.fst).map AFee.dv) s))], []⟩) (fun _ _ => True) (fun i _ p c => if AFee.beq p.1 p.2 = true then c () else r) (fun _ => k (.exit 0) [(14, .d (.b false)), (5, .d (I z.length)), (1, .d (.l (K1 10) ((z.map Prod.snd).map AFee.dv) t)), (0, .d (.l (K1 10) ((z.map Prod.fst).map AFee.dv) s))] []) ?_ ?_ h0 trivial]
 ·rw [rounds_all (fun p => AFee.beq p.1 p.2) r]
  ·cases z.all fun p => AFee.beq p.1 p.2 <;> rfl
  ·exact fun _ _ _ _ => rfl
 ·intro B _ _ _
  simp [L302_0]
 ·intro B _ i _ hi _ c hc
  have h1 : (i : Int) < z.length := by omega
  have h3 := wr1 (i := i) (by omega)
  obtain ⟨o1, o2⟩ := ho z[i] (List.getElem_mem hi)
  have e0 := val303 T hT z[i].1.When z[i].2.When o1.2.2.1 o2.2.2.1
  have e1 := val303 T hT z[i].1.Amount z[i].2.Amount o1.2.2.2 o2.2.2.2
  simp [L302_0, h1, hi]
  repeat' (refine brn_split (fun h => ?_) (fun h => ?_) <;> (try simp at h) <;> (try simp [h, h1, hi, h3, e0, e1, AFee.beq, ibq, sbq]))
  all_goals first
   | exact hr _ _ (by simp [Fr.get]) (by simp [ghosts, gh])
   | exact hc () _ _ trivial (by simp [gc, Fr.keep, reach, frRefs, heapRefs, PV.refs, gcH, PV.ren, Obj.ren, Heap.obj, Fr.ren, gh])
   | (simp_all [AFee.beq, ibq, sbq, bbq]; first | exact hr _ _ (by simp [Fr.get]) (by simp [ghosts, gh]) | exact hc () _ _ trivial (by simp [gc, Fr.keep, reach, frRefs, heapRefs, PV.refs, PV.refsL, place, gcH, orefs, Obj.refs, PV.ren, PV.renL, Obj.ren, Heap.obj, Fr.ren, gh, List.idxOf?_cons]))
end Go.Sim
end
section
namespace Go.Sim
set_option maxRecDepth 10000
set_option maxHeartbeats 8000000
theorem val223 (T : Tab) (hT : ∀ n F, tabC.get n = some F → T.F n = some F) (x y : List ACalendar) (s t : Bool) (ox : ∀ p ∈ x, p.ok) (oy : ∀ p ∈ y, p.ok) (hn : x.length ≤ maxLen) : T.val 223 [.l (K1 3) (x.map ACalendar.dv) s, .l (K1 3) (y.map ACalendar.dv) t] = some (.d (.b (lsb ACalendar.beq x y)), false) := by
 rw [val_k T (hT 223 F223 rfl) rfl]
 by_cases hl : x.length = y.length
 ·obtain ⟨z, rfl, rfl⟩ := zip_of x y hl
  rw [lsb_zip]
  have hz : z.length ≤ maxLen := by simpa using hn
  have lp := fun k fr H => @lp223_0 T hT z s t (fun p hp => ⟨ox _ (List.mem_map_of_mem hp), oy _ (List.mem_map_of_mem hp)⟩) hz k (some (.d (.b false), false)) fr H
  simp [F223, Fr.ofArgs]
  rw [lp]
  ·refine brn_split (fun h => ?_) (fun h => ?_)
   ·simp [h]
   ·rw [h]
  ·simp [RetF_bl, RetF_sq, RetF_fin]
  ·simp [gc, Fr.keep, reach, frRefs, heapRefs, PV.refs, gcH, PV.ren, Obj.ren, Heap.obj, Fr.ren, gh]
 ·rw [lsb_len _ _ hl]
  have hl' : ((x.length : Int) == (y.length : Int)) = false := by simp; omega
  simp [F223, Fr.ofArgs, hl', bne]
theorem val302 (T : Tab) (hT : ∀ n F, tabC.get n = some F → T.F n = some F) (x y : List AFee) (s t : Bool) (ox : ∀ p ∈ x, p.ok) (oy : ∀ p ∈ y, p.ok) (hn : x.length ≤ maxLen) : T.val 302 [.l (K1 10) (x.map AFee.dv) s, .l (K1 10) (y.map AFee.dv) t] = some (.d (.b (lsb AFee.beq x y)), false) := by
 rw [val_k T (hT 302 F302 rfl) rfl]
 by_cases hl : x.length = y.length
 ·obtain ⟨z, rfl, rfl⟩ := zip_of x y hl
  rw [lsb_zip]
  have hz : z.length ≤ maxLen := by simpa using hn
  have lp := fun k fr H => @lp302_0 T hT z s t (fun p hp => ⟨ox _ (List.mem_map_of_mem hp), oy _ (List.mem_map_of_mem hp)⟩) hz k (some (.d (.b false), false)) fr H
  simp [F302, Fr.ofArgs]
  rw [lp]
  ·refine brn_split (fun h => ?_) (fun h => ?_)
   ·simp [h]
   ·rw [h]
  ·simp [RetF_bl, RetF_sq, RetF_fin]
  ·simp [gc, Fr.keep, reach, frRefs, heapRefs, PV.refs, gcH, PV.ren, Obj.ren, Heap.obj, Fr.ren, gh]
 ·rw [lsb_len _ _ hl]
  have hl' : ((x.length : Int) == (y.length : Int)) = false := by simp; omega
  simp [F302, Fr.ofArgs, hl', bne]
end Go.Sim
end
section
namespace Go.Sim
set_option maxRecDepth 10000
set_option maxHeartbeats 8000000
theorem val224 (T : Tab) (hT : ∀ n F, tabC.get n = some F → T.F n = some F) (x y : AProduct) (hx : x.ok) (hy : y.ok) : T.val 224 [x.dv, y.dv] = some (.d (.b (AProduct.beq x y)), false) := by
 rw [val_k T (hT 224 F224 rfl) rfl]
 have d0 := val301 T hT x.Credit y.Credit hx.2.2.2.2.2.2.2.1
 have d1 := val301 T hT x.Debit y.Debit hx.2.2.2.2.2.2.2.2.1
 have d2 := val302 T hT x.Fees.l y.Fees.l x.Fees.t y.Fees.t (fun p hp => (hx.2.2.2.2.2.2.2.2.2.1).2 p hp) (fun p hp => (hy.2.2.2.2.2.2.2.2.2.1).2 p hp) (hx.2.2.2.2.2.2.2.2.2.1).1
 by_cases hl0 : x.Rules.l.length = y.Rules.l.length
 rotate_left
 ·have hl0' : ((x.Rules.l.length : Int) == (y.Rules.l.length : Int)) = false := by simp; omega
  simp [F224, Fr.ofArgs]
  repeat' (refine brn_split (fun h => ?_) (fun h => ?_) <;> (try simp at h) <;> (try simp [h, d0, d1, d2, hl0', bne]))
  all_goals simp_all [AProduct.beq, ibq, sbq, lsb_len _ _ hl0]
 obtain ⟨z0, hx0, hy0⟩ := zip_of x.Rules.l y.Rules.l hl0
 have hn0 : z0.length ≤ maxLen := by have := (hx.2.2.2.2.2.2.2.2.2.2).1; rw [hx0] at this; simpa using this
 have lp0 := fun k fr H => @lp224_0 T hT x y z0 hx0 hy0 (fun p hp => ⟨(hx.2.2.2.2.2.2.2.2.2.2).2 p.1 (by rw [hx0]; exact List.mem_map_of_mem hp), (hy.2.2.2.2.2.2.2.2.2.2).2 p.2 (by rw [hy0]; exact List.mem_map_of_mem hp)⟩) hn0 k (some (.d (.b false), false)) fr H
 have hz0 : lsb ARule.beq x.Rules.l y.Rules.l = z0.all fun p => ARule.beq p.1 p.2 := by rw [hx0, hy0, lsb_zip]
 obtain ⟨q0, hq0⟩ : ∃ q, (z0.all fun p => ARule.beq p.1 p.2) = q := ⟨_, rfl⟩
 simp only [hq0] at lp0 hz0
 clear hq0
 simp [F224, Fr.ofArgs]
 repeat' first
  | (refine brn_split (fun h => ?_) (fun h => ?_) <;> (try simp at h) <;> (try simp [h, d0, d1, d2, hx0, hy0]))
  | refine (lp0 _ _ _ (by simp [RetF_bl, RetF_sq, RetF_fin]) (by simp [gc, Fr.keep, reach, frRefs, heapRefs, PV.refs, place, gcH, orefs, Obj.refs, PV.ren, Obj.ren, Heap.obj, Fr.ren, gh, List.idxOf?_cons])).trans ?_
 all_goals simp_all [AProduct.beq, ibq, sbq]
end Go.Sim
end
section
namespace Go.Sim
set_option maxRecDepth 10000
set_option maxHeartbeats 8000000
theorem val139 (T : Tab) (hT : ∀ n F, tabC.get n = some F → T.F n = some F) (x y : ABooks) (hx : x.ok) (hy : y.ok) : T.val 139 [x.dv, y.dv] = some (.d (.b (bqBk x y)), false) := by
 rw [val_k T (hT 139 F139 rfl) rfl]
 have d0 := val223 T hT x.Calendars.l y.Calendars.l x.Calendars.t y.Calendars.t (fun p hp => (hx.2.1).2 p hp) (fun p hp => (hy.2.1).2 p hp) (hx.2.1).1
 have e38 : eqA [1, 1, 1, 1, 1, 1, 1, 1, 1, 1, 1, 1, 1, 1] (.d x.Plan.dv) (.d y.Plan.dv) = some (APlan.beq x.Plan y.Plan) := by
  simp [eqA, eqL, eqK, APlan.dv, APlan.beq, ibq, Bool.and_assoc]
 by_cases hl0 : x.Currencies.l.length = y.Currencies.l.length
 rotate_left
 ·have hl0' : ((x.Currencies.l.length : Int) == (y.Currencies.l.length : Int)) = false := by simp; omega
  simp [F139, Fr.ofArgs, hl0', bne]
  repeat' (refine brn_split (fun h => ?_) (fun h => ?_) <;> (try simp at h) <;> (try simp [h, d0, e38, hl0, hl0', bne]))
  all_goals simp_all [bqBk, lsb_len _ _ hl0]
 by_cases hl1 : x.Chart.l.length = y.Chart.l.length
 rotate_left
 ·have hl1' : ((x.Chart.l.length : Int) == (y.Chart.l.length : Int)) = false := by simp; omega
  simp [F139, Fr.ofArgs, bne]
  repeat' (refine brn_split (fun h => ?_) (fun h => ?_) <;> (try simp at h) <;> (try simp [h, hl1', bne]))
  all_goals simp_all [bqBk, lsb_len _ _ hl1]
 by_cases hl2 : x.Products.l.length = y.Products.l.length
 rotate_left
 ·have hl2' : ((x.Products.l.length : Int) == (y.Products.l.length : Int)) = false := by simp; omega
  simp [F139, Fr.ofArgs, bne]
  repeat' (refine brn_split (fun h => ?_) (fun h => ?_) <;> (try simp at h) <;> (try simp [h, hl2', bne]))
  all_goals simp_all [bqBk, lsb_len _ _ hl2]
 obtain ⟨z0, hx0, hy0⟩ := zip_of x.Currencies.l y.Currencies.l hl0
 have hn0 : z0.length ≤ maxLen := by have := (hx.1).1; rw [hx0] at this; simpa using this
 have lp0 := fun k fr H => @lp139_0 T x y z0 hx0 hy0 hn0 k (some (.d (.b false), false)) fr H
 have hz0 : lsb ACurrency.beq x.Currencies.l y.Currencies.l = z0.all fun p => ACurrency.beq p.1 p.2 := by rw [hx0, hy0, lsb_zip]
 obtain ⟨q0, hq0⟩ : ∃ q, (z0.all fun p => ACurrency.beq p.1 p.2) = q := ⟨_, rfl⟩
 simp only [hq0] at lp0 hz0
 clear hq0
 obtain ⟨z1, hx1, hy1⟩ := zip_of x.Chart.l y.Chart.l hl1
 have hn1 : z1.length ≤ maxLen := by have := (hx.2.2.1).1; rw [hx1] at this; simpa using this
 have lp1 := fun k fr H => @lp139_1 T x y z1 hx1 hy1 hn1 k (some (.d (.b false), false)) fr H
 have hz1 : lsb AGl.beq x.Chart.l y.Chart.l = z1.all fun p => AGl.beq p.1 p.2 := by rw [hx1, hy1, lsb_zip]
 obtain ⟨q1, hq1⟩ : ∃ q, (z1.all fun p => AGl.beq p.1 p.2) = q := ⟨_, rfl⟩
 simp only [hq1] at lp1 hz1
 clear hq1
 obtain ⟨z2, hx2, hy2⟩ := zip_of x.Products.l y.Products.l hl2
 have hn2 : z2.length ≤ maxLen := by have := (hx.2.2.2.2.1).1; rw [hx2] at this; simpa using this
 have lp2 := fun k fr H => @lp139_2 T x y z2 hx2 hy2 (fun p hp => val224 T hT p.1 p.2 ((hx.2.2.2.2.1).2 p.1 (by rw [hx2]; exact List.mem_map_of_mem hp)) ((hy.2.2.2.2.1).2 p.2 (by rw [hy2]; exact List.mem_map_of_mem hp))) hn2 k (some (.d (.b false), false)) fr H
 have hz2 : lsb AProduct.beq x.Products.l y.Products.l = z2.all fun p => AProduct.beq p.1 p.2 := by rw [hx2, hy2, lsb_zip]
 obtain ⟨q2, hq2⟩ : ∃ q, (z2.all fun p => AProduct.beq p.1 p.2) = q := ⟨_, rfl⟩
 simp only [hq2] at lp2 hz2
 clear hq2
 simp [F139, Fr.ofArgs, e38, hx0, hy0, hx1, hy1, hx2, hy2]
 repeat' first
  | (refine brn_split (fun h => ?_) (fun h => ?_) <;> (try simp at h) <;> (try simp [h, d0, hx0, hy0, hx1, hy1, hx2, hy2]))
  | refine (lp0 _ _ _ (by simp [RetF_bl, RetF_sq, RetF_fin]) (by simp [gc, Fr.keep, reach, frRefs, heapRefs, PV.refs, place, gcH, orefs, Obj.refs, PV.ren, Obj.ren, Heap.obj, Fr.ren, gh, List.idxOf?_cons])).trans ?_
  | refine (lp1 _ _ _ (by simp [RetF_bl, RetF_sq, RetF_fin]) (by simp [gc, Fr.keep, reach, frRefs, heapRefs, PV.refs, place, gcH, orefs, Obj.refs, PV.ren, Obj.ren, Heap.obj, Fr.ren, gh, List.idxOf?_cons])).trans ?_
  | refine (lp2 _ _ _ (by simp [RetF_bl, RetF_sq, RetF_fin]) (by simp [gc, Fr.keep, reach, frRefs, heapRefs, PV.refs, place, gcH, orefs, Obj.refs, PV.ren, Obj.ren, Heap.obj, Fr.ren, gh, List.idxOf?_cons])).trans ?_
 all_goals simp_all [bqBk]
end Go.Sim
end
section
namespace Go.Sim
set_option maxRecDepth 10000
set_option maxHeartbeats 8000000
theorem val9 (T : Tab) (hT : ∀ n F, tabC.get n = some F → T.F n = some F) (x y : AEntry) (hx : x.ok) : T.val 9 [x.dv, y.dv] = some (.d (.b (AEntry.beq x y)), false) := by
 rw [val_k T (hT 9 F9 rfl) rfl]
 have d0 := val14 T (hT 14 F14 rfl) x.Legs.l y.Legs.l x.Legs.t y.Legs.t (hx.2.2.2.2.2.2.2.2.1).1
 simp [F9, Fr.ofArgs]
 repeat' (refine brn_split (fun h => ?_) (fun h => ?_) <;> (try simp at h) <;> (try simp [h, d0]))
 all_goals simp_all [AEntry.beq, ibq, sbq]
end Go.Sim
end
section
namespace Go.Sim
set_option maxRecDepth 10000
set_option maxHeartbeats 8000000
theorem val97 (T : Tab) (hT : ∀ n F, tabC.get n = some F → T.F n = some F) (x y : ABooks) (hx : x.ok) (hy : y.ok) : T.val 97 [x.dv, y.dv] = some (.d (.b (ABooks.beq x y)), false) := by
 rw [val_k T (hT 97 F97 rfl) rfl]
 have d0 := val139 T hT x y hx hy
 have d1 := val140 T (hT 140 F140 rfl) x.Accounts.l y.Accounts.l x.Accounts.t y.Accounts.t (hx.2.2.2.2.2.1).1
 by_cases hl0 : x.Journal.l.length = y.Journal.l.length
 rotate_left
 ·have hl0' : ((x.Journal.l.length : Int) == (y.Journal.l.length : Int)) = false := by simp; omega
  simp [F97, Fr.ofArgs, d0]
  repeat' (refine brn_split (fun h => ?_) (fun h => ?_) <;> (try simp at h) <;> (try simp [h, d1, hl0', bne]))
  all_goals simp_all [ABooks.beq, bqBk, lsb_len _ _ hl0]
 by_cases hl1 : x.Holds.l.length = y.Holds.l.length
 rotate_left
 ·have hl1' : ((x.Holds.l.length : Int) == (y.Holds.l.length : Int)) = false := by simp; omega
  simp [F97, Fr.ofArgs, d0]
  repeat' (refine brn_split (fun h => ?_) (fun h => ?_) <;> (try simp at h) <;> (try simp [h, d1, hl1', bne]))
  all_goals simp_all [ABooks.beq, bqBk, lsb_len _ _ hl1]
 by_cases hl2 : x.Blocks.l.length = y.Blocks.l.length
 rotate_left
 ·have hl2' : ((x.Blocks.l.length : Int) == (y.Blocks.l.length : Int)) = false := by simp; omega
  simp [F97, Fr.ofArgs, d0]
  repeat' (refine brn_split (fun h => ?_) (fun h => ?_) <;> (try simp at h) <;> (try simp [h, d1, hl2', bne]))
  all_goals simp_all [ABooks.beq, bqBk, lsb_len _ _ hl2]
 obtain ⟨z0, hx0, hy0⟩ := zip_of x.Journal.l y.Journal.l hl0
 have hn0 : z0.length ≤ maxLen := by have := (hx.2.2.2.2.2.2.1).1; rw [hx0] at this; simpa using this
 have lp0 := fun k fr H => @lp97_0 T x y z0 hx0 hy0 (fun p hp => val9 T hT p.1 p.2 ((hx.2.2.2.2.2.2.1).2 p.1 (by rw [hx0]; exact List.mem_map_of_mem hp))) hn0 k (some (.d (.b false), false)) fr H
 have hz0 : lsb AEntry.beq x.Journal.l y.Journal.l = z0.all fun p => AEntry.beq p.1 p.2 := by rw [hx0, hy0, lsb_zip]
 obtain ⟨q0, hq0⟩ : ∃ q, (z0.all fun p => AEntry.beq p.1 p.2) = q := ⟨_, rfl⟩
 simp only [hq0] at lp0 hz0
 clear hq0
 obtain ⟨z1, hx1, hy1⟩ := zip_of x.Holds.l y.Holds.l hl1
 have hn1 : z1.length ≤ maxLen := by have := (hx.2.2.2.2.2.2.2.1).1; rw [hx1] at this; simpa using this
 have lp1 := fun k fr H => @lp97_1 T x y z1 hx1 hy1 hn1 k (some (.d (.b false), false)) fr H
 have hz1 : lsb AHold.beq x.Holds.l y.Holds.l = z1.all fun p => AHold.beq p.1 p.2 := by rw [hx1, hy1, lsb_zip]
 obtain ⟨q1, hq1⟩ : ∃ q, (z1.all fun p => AHold.beq p.1 p.2) = q := ⟨_, rfl⟩
 simp only [hq1] at lp1 hz1
 clear hq1
 obtain ⟨z2, hx2, hy2⟩ := zip_of x.Blocks.l y.Blocks.l hl2
 have hn2 : z2.length ≤ maxLen := by have := (hx.2.2.2.2.2.2.2.2).1; rw [hx2] at this; simpa using this
 have lp2 := fun k fr H => @lp97_2 T x y z2 hx2 hy2 hn2 k (some (.d (.b false), false)) fr H
 have hz2 : lsb ABlock.beq x.Blocks.l y.Blocks.l = z2.all fun p => ABlock.beq p.1 p.2 := by rw [hx2, hy2, lsb_zip]
 obtain ⟨q2, hq2⟩ : ∃ q, (z2.all fun p => ABlock.beq p.1 p.2) = q := ⟨_, rfl⟩
 simp only [hq2] at lp2 hz2
 clear hq2
 simp [F97, Fr.ofArgs, d0]
 repeat' first
  | (refine brn_split (fun h => ?_) (fun h => ?_) <;> (try simp at h) <;> (try simp [h, d1, hx0, hy0, hx1, hy1, hx2, hy2]))
  | refine (lp0 _ _ _ (by simp [RetF_bl, RetF_sq, RetF_fin]) (by simp [gc, Fr.keep, reach, frRefs, heapRefs, PV.refs, place, gcH, orefs, Obj.refs, PV.ren, Obj.ren, Heap.obj, Fr.ren, gh, List.idxOf?_cons])).trans ?_
  | refine (lp1 _ _ _ (by simp [RetF_bl, RetF_sq, RetF_fin]) (by simp [gc, Fr.keep, reach, frRefs, heapRefs, PV.refs, place, gcH, orefs, Obj.refs, PV.ren, Obj.ren, Heap.obj, Fr.ren, gh, List.idxOf?_cons])).trans ?_
  | refine (lp2 _ _ _ (by simp [RetF_bl, RetF_sq, RetF_fin]) (by simp [gc, Fr.keep, reach, frRefs, heapRefs, PV.refs, place, gcH, orefs, Obj.refs, PV.ren, Obj.ren, Heap.obj, Fr.ren, gh, List.idxOf?_cons])).trans ?_
 all_goals simp_all [ABooks.beq, bqBk]
end Go.Sim
end
section
namespace Go.Sim
set_option maxRecDepth 10000
set_option maxHeartbeats 8000000
end Go.Sim
end
end
section
open Go.Sim
attribute [local simp ↓] kC_skip kC_ret kC_exit kC_seq kC_block kC_reg kC_cond kC_condc sqK blK lpK kO_nil kO_O kO_E kO_OG kO_EG grd_b grd_t tst_b brn_true brn_false brn_not chk_T b_mov b_pick b_alloc b_box b_load b_store b_bin b_un b_eqv b_faddr b_field b_iaddr b_sl b_len b_app b_call b_call1 b_callR b_ext bo_some bo_none bo2_some bo2_none bo_iaddr bo_addS bo_quo bo_rem bo_bnd bo_bnd0 ld_q0 ld_qw ld_p subP0 subPw bo_moveP bo_moveQ bo_lenl bo_lens bo_lenr bo_add bo_sub bo_mul bo_eql bo_neq bo_lss bo_leq bo_gtr bo_geq bo_neg bo_not bo_eqS bo_neS grd_nb b_slS slSK_s extK_t ownL_l fin_ret fin_norm bo_res0 bo_rest bo_resc st_p stK_box b_callv callvK_f0 callvK_f1 mkf_b subPs ld_qs kC_regS0 kC_regS1 kC_regS2 kC_regS3 kC_regS4 kC_regS5 b_eqb eqbK_b b_agg0 b_bsl0 b_bsl1 app_l app_r appE_n appE_r bo_lenR b_mkif mkifK_d b_tas tasK_i b_mm2 bo_mm2
attribute [local simp] K_refl obj_0 obj_s get_c get_n drop_c drop_n set_c set_n fix_c fix_n rd IOp.adds nadds gh nid rgK rdS ghosts_c ghosts_n packed1 packed2 purT_b purT_i purT_s purT_a purT_lt purT_lf K_ss K_ns K_sn plains_n plains_c env_val env_ref purs_n purs_d put_0 put_s fits_i fits_b fits_s fits_l lt0_nat fits_a purT_t pur_dv frz_n purT_r purT_f
section
namespace Go.Sim
set_option maxRecDepth 10000
set_option maxHeartbeats 4000000
theorem small_journal {x : ABank} (h : bSmall x = true) : x.Books.Journal.l.length ≤ 90 := by
 unfold bSmall smHead bFew at h
 simp at h
 omega
theorem befR_ok {b : ABank} (h : b.Books.ok) (t : ATask) : (befR b t).ok := by
 obtain ⟨h1, h2, h3, h4, h5, h6, h7, h8⟩ := h
 refine ⟨h1, h2, h3, h4, h5, h6, ⟨?_, fun a ha => h7.2 a (List.mem_of_mem_take ha)⟩, h8⟩
 show (b.Books.Journal.l.take (befN b t)).length ≤ maxLen
 rw [List.length_take]; have := h7.1; omega
theorem bef_eq (b : ABank) (t : ATask) : ABooks.beq (b.Books.upTo (befN b t)) (befR b t) = true := ABooks.beq_refl (b.Books.upTo (befN b t))
theorem law1119 (T : Tab) (hT : ∀ n F, tabC.get n = some F → T.F n = some F) (hL : HL T) (hX : HX T) (hY : HY T) (hI : HItY T) (h1 : T.F 77 = some F77) (h2 : T.F 85 = some F85) (h3 : T.val 1010 [] = some (.d (.b true), false)) (b : ABank) (t : ATask) (hb : b.ok) (hf : b.fit) (ht : t.ok) : T.val 1119 [b.dv, t.dv] = some (.d (.b true), false) := by
 rw [val_k T (hY 1119 F1119 rfl) rfl]
 have d0 := val77 T h1 h2 b hb
 have e1 := val528 T hY hI hL hX b t hb hf ht
 have e3 := val97 T hT (b.Books.upTo (befN b t)) (befR b t) (upTo_ok hb.2.2.2.1 _) (befR_ok hb.2.2.2.1 t)
 rw [bef_eq] at e3
 cases hs : bSmall b with
 | false =>
  rw [hs] at d0
  simp [F1119, Fr.ofArgs, d0, h3]
 | true =>
  have e2 := val1120 T hY b t hb ht (by have := small_journal hs; omega)
  rw [hs] at d0
  simp [F1119, Fr.ofArgs, d0, h3, e1, e2, e3]
end Go.Sim
end
end
