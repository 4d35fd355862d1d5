/- Part 14 of the proof: CbKl, CbV25N, CbN1, CbN2, CbN3, CbP2, CbP3, CbN4, CbN5, CbP4, CbP5, CbP6, CbV29S, CbS0, CbS2, CbS3, CbP7, CbP8, CbP9, CbPa, CbPb, CbPc, CbS4, CbS1, CbS5, CbPd, CbPe, CbPf, CbFast. -/
import Derived.Test.YtehcjdaedhmkdaaGreatDoorB13
import Derived.Test.YtehcjdaedhmkdaaGreatDoorB6
import Derived.Test.YtehcjdaedhmkdaaGreatDoorB7
import Derived.Test.YtehcjdaedhmkdaaGreatDoorB8
import Derived.Test.YtehcjdaedhmkdaaGreatDoorB3
section
namespace Go.Sim
section
variable {R : Type} {E : Env} {ρ : Rand → PV} {H : Heap} {id : Nat} {q : PV → Heap → Option R} {base : Nat}
def convK (k : IntKind) (x : PV) {q : PV → Option R} (_ : Hd q) : Option R := match x with | .d (.i _ n) => q (.d (.i k (k.wrap n))) | _ => none
theorem convK_i {k kk : IntKind} {n : Int} {q : PV → Option R} : convK k (.d (.i kk n)) (.h q) = q (.d (.i k (k.wrap n))) := rfl
theorem b_conv {k : IntKind} {x : Rand} : bo2 (evalOp E ρ H id (.conv k x)) (.h q) = convK k (ρ x) (.h fun v => q v H) := by
 simp only [evalOp, convK]
 cases ρ x with
 | d v => cases v <;> rfl
 | _ => rfl
theorem bo_shr {k k' : IntKind} {a b : Int} {y : DV → Option R} : bo (binA .shr (.d (.i k a)) (.d (.i k' b))) (.h y) = chk (0 ≤ b) (.h (y (.i k (a.fdiv (2 ^ min b.toNat k.bits))))) := by
 simp only [binA, shiftI, chk]
 by_cases h : b < 0
 ·rw [if_pos h, if_neg (by omega)]; rfl
 ·rw [if_neg h, if_pos (by omega)]; rfl
theorem half_i (n : Nat) : Int.fdiv (n : Int) (2 ^ min (Int.toNat 1) IntKind.u64.bits) = ((n / 2 : Nat) : Int) := by
 show Int.fdiv (n : Int) 2 = _
 rw [Int.fdiv_eq_ediv_of_nonneg _ (by omega)]; omega
theorem wrU {n : Int} (h : 0 ≤ n) (h' : n < 18446744073709551616) : IntKind.u64.wrap n = n := by
 have e : IntKind.u64.wrap n = n % 18446744073709551616 := by
  unfold IntKind.wrap
  simp [IntKind.bits, IntKind.signed]
 rw [e]; omega
theorem bo_slR {k k' : Sim.K} {o off len : Nat} {t : Bool} {lo hi : Option PV} {y : PV → Option R} : bo (slA H k (.r o k' off len t) lo hi none) (.h y) = match H.obj o with
  | some (.sl _ _ es) => chk ((K.eq k k' && decide (off + len ≤ es.length)) = true) (.h (bo (bnd len len hi) (.h fun h => bo (bnd 0 h lo) (.h fun l => y (.r o k (off + l) (h - l) (t && h == len))))))
  | _ => none := by
 simp only [slA]
 cases H.obj o with
 | none => rfl
 | some x =>
  cases x with
  | sl k2 ro es =>
   simp only [chk]
   by_cases hc : (K.eq k k' && decide (off + len ≤ es.length)) = true
   ·have e : bnd len len none = some len := rfl
    simp only [hc, if_true, e, Option.isSome_none, Bool.false_eq_true, if_false]
    cases bnd len len hi with
    | none => rfl
    | some h =>
     simp only [bo]
     cases bnd 0 h lo <;> rfl
   ·simp only [hc, if_false, Bool.false_eq_true]; rfl
  | _ => rfl
theorem bo_slL {k k' : Sim.K} {es : List DV} {t : Bool} {lo hi : Option PV} {y : PV → Option R} : bo (slA H k (.d (.l k' es t)) lo hi none) (.h y) = chk ((K.eq k k' || es.isEmpty) = true) (.h (bo (bnd es.length es.length hi) (.h fun h => bo (bnd 0 h lo) (.h fun l => y (.d (.l k ((es.take h).drop l) (t && h == es.length))))))) := by
 simp only [slA, chk]
 by_cases hc : (K.eq k k' || es.isEmpty) = true
 ·have e : bnd es.length es.length none = some es.length := rfl
  simp only [hc, if_true, e, Option.isSome_none, Bool.false_eq_true, if_false]
  cases bnd es.length es.length hi with
  | none => rfl
  | some h =>
   simp only [bo]
   cases bnd 0 h lo <;> rfl
 ·simp only [hc, if_false, Bool.false_eq_true]; rfl
def clrK (k : Sim.K) (z : DV) (x : PV) (H : Heap) {q : PV → Heap → Option R} (_ : Hd q) : Option R := match x with
 | .r o k' off len _ => match H.obj o with
  | some (.sl k'' ro es) => chk ((K.eq k k' && K.eq k k'' && decide (off + len ≤ es.length) && decide (ro ≤ off)) = true) (.h (q (.t []) (H.put o (some (.sl k ro (putAt es off (List.replicate len z)))))))
  | _ => none
 | .d (.l _ [] _) => q (.t []) H
 | _ => none
theorem b_clr {k : Sim.K} {z : DV} {x : Rand} : bo2 (evalOp E ρ H id (.clr k z x)) (.h q) = clrK k z (ρ x) H (.h q) := by
 simp only [evalOp, clrK]
 cases ρ x with
 | r o k' off len t =>
  simp only
  cases H.obj o with
  | none => rfl
  | some y =>
   cases y with
   | sl k'' ro es =>
    simp only [chk]
    by_cases hc : (K.eq k k' && K.eq k k'' && decide (off + len ≤ es.length) && decide (ro ≤ off)) = true
    ·simp only [hc, if_true]; rfl
    ·simp only [hc, if_false, Bool.false_eq_true]; rfl
   | _ => rfl
 | d v =>
  cases v with
  | l k' es t => cases es <;> rfl
  | _ => rfl
 | _ => rfl
theorem clrK_r {k k' : Sim.K} {z : DV} {o off len : Nat} {t : Bool} {q : PV → Heap → Option R} : clrK k z (.r o k' off len t) H (.h q) = match H.obj o with
  | some (.sl k'' ro es) => chk ((K.eq k k' && K.eq k k'' && decide (off + len ≤ es.length) && decide (ro ≤ off)) = true) (.h (q (.t []) (H.put o (some (.sl k ro (putAt es off (List.replicate len z)))))))
  | _ => none := rfl
theorem loop_meas {σ : Type} {live : List Nat} {body : PC} {k : KC R} (st : σ → St) (inv : σ → Prop) (μ : σ → Nat) {r : Option R}
  (hround : ∀ B, B = body → ∀ s, inv s → (∀ s', inv s' → μ s' < μ s → ∀ fr H, gc live base ⟨fr, H⟩ = st s' → kC E base fr H (.h (.loop live B, k)) = r) → kC E base (st s).fr (st s).H (.h (body, lpK E base live B k)) = r)
  (s : σ) (hs : inv s) {fr : Fr} {H : Heap} (h0 : gc live base ⟨fr, H⟩ = st s) : kC E base fr H (.h (.loop live body, k)) = r := by
 have key : ∀ (n : Nat) (s : σ), μ s < n → inv s → ∀ fr H, gc live base ⟨fr, H⟩ = st s → kC E base fr H (.h (.loop live body, k)) = r := by
  intro n
  induction n with
  | zero => intro s h; exact absurd h (Nat.not_lt_zero _)
  | succ n ih =>
   intro s hn hv fr H hg
   rw [kC_loop, hg]
   exact hround body rfl s hv fun s' hv' hm fr' H' hg' => ih s' (by omega) hv' fr' H' hg'
 exact key (μ s + 1) s (Nat.lt_succ_self _) hs fr H h0
end
end Go.Sim
end
section
namespace Go.Sim
def tabN : PT :=
 (.bin 268 F268 (.bin 181 F181 (.bin 179 F179 (.bin 110 F110 .nil .nil) (.bin 180 F180 .nil .nil)) (.bin 263 F263 (.bin 262 F262 .nil .nil) (.bin 265 F265 .nil .nil))) (.bin 382 F382 (.bin 342 F342 (.bin 341 F341 .nil .nil) (.bin 344 F344 .nil .nil)) (.bin 1020 F1020 (.bin 1018 F1018 .nil .nil) .nil)))
abbrev HN (T : Tab) : Prop := ∀ n F, tabN.get n = some F → T.F n = some F
end Go.Sim
end
section
open Go.Sim
attribute [local simp ↓] kC_skip kC_ret kC_exit kC_seq kC_block kC_reg kC_cond kC_condc sqK blK lpK kO_nil kO_O kO_E kO_OG kO_EG grd_b grd_t tst_b brn_true brn_false brn_not chk_T b_mov b_pick b_alloc b_box b_load b_store b_bin b_un b_eqv b_faddr b_field b_iaddr b_sl b_len b_app b_call b_call1 b_callR b_ext bo_some bo_none bo2_some bo2_none bo_iaddr bo_addS bo_quo bo_rem bo_bnd bo_bnd0 ld_q0 ld_qw ld_p subP0 subPw bo_moveP bo_moveQ bo_lenl bo_lens bo_lenr bo_add bo_sub bo_mul bo_eql bo_neq bo_lss bo_leq bo_gtr bo_geq bo_neg bo_not bo_eqS bo_neS grd_nb b_slS slSK_s extK_t ownL_l fin_ret fin_norm bo_res0 bo_rest bo_resc st_p stK_box b_callv callvK_f0 callvK_f1 mkf_b subPs ld_qs kC_regS0 kC_regS1 kC_regS2 kC_regS3 kC_regS4 kC_regS5 b_eqb eqbK_b b_agg0 b_bsl0 b_bsl1 app_l app_r appE_n appE_r bo_lenR b_mkif mkifK_d b_tas tasK_i b_mm2 bo_mm2
attribute [local simp] K_refl obj_0 obj_s get_c get_n drop_c drop_n set_c set_n fix_c fix_n rd IOp.adds nadds gh nid rgK rdS ghosts_c ghosts_n packed1 packed2 purT_b purT_i purT_s purT_a purT_lt purT_lf K_ss K_ns K_sn plains_n plains_c env_val env_ref purs_n purs_d put_0 put_s fits_i fits_b fits_s fits_l lt0_nat fits_a purT_t pur_dv frz_n purT_r purT_f
section
namespace Go.Sim
set_option maxRecDepth 10000
set_option maxHeartbeats 4000000
def cmI2 (a b : Int) : Int := if a < b then -1 else if b < a then 1 else 0
def cmS2 (a b : List UInt8) : Int := if Op.bytesLess a b = true then -1 else if Op.bytesLess b a = true then 1 else 0
def cmL (a b : ALeg) : Int := if cmI2 a.Account b.Account = 0 then cmS2 a.Currency b.Currency else cmI2 a.Account b.Account
theorem cmL_lt (a b : ALeg) : decide (cmL a b < 0) = ltL a b := by
 unfold cmL cmI2 cmS2 ltL
 by_cases h1 : a.Account < b.Account
 ·simp [h1]
 ·by_cases h2 : b.Account < a.Account
  ·have : ¬ a.Account = b.Account := by omega
   simp [h1, h2, this]
  ·have e : a.Account = b.Account := by omega
   simp only [e, Int.lt_irrefl, if_false, if_true, decide_false, beq_self_eq_true, Bool.true_and, Bool.false_or]
   cases Op.bytesLess a.Currency b.Currency <;> cases Op.bytesLess b.Currency a.Currency <;> simp
theorem cmL_eq (a b : ALeg) (h : ltL a b = false) : (cmL a b == 0) = !ltL b a := by
 unfold cmL cmI2 cmS2
 unfold ltL at h ⊢
 by_cases h1 : a.Account < b.Account
 ·simp [h1] at h
 ·by_cases h2 : b.Account < a.Account
  ·simp [h1, h2]
  ·have e : a.Account = b.Account := by omega
   simp only [e, Int.lt_irrefl, if_false, if_true, decide_false, beq_self_eq_true, Bool.true_and, Bool.false_or] at h ⊢
   rw [h]
   cases Op.bytesLess b.Currency a.Currency <;> simp
theorem val382 (T : Tab) (hN : HN T) (x : Int) : T.val 382 [I x] = some (.d (.b false), false) := by
 rw [val_k T (hN 382 F382 rfl) rfl]
 simp [F382, Fr.ofArgs, bne]
theorem val344 (T : Tab) (hN : HN T) (x : List UInt8) : T.val 344 [.s x] = some (.d (.b false), false) := by
 rw [val_k T (hN 344 F344 rfl) rfl]
 simp [F344, Fr.ofArgs]
theorem val342 (T : Tab) (hN : HN T) (x y : Int) : T.val 342 [I x, I y] = some (.d (I (cmI2 x y)), false) := by
 rw [val_k T (hN 342 F342 rfl) rfl]
 have e1 := val382 T hN x
 have e2 := val382 T hN y
 unfold cmI2
 simp [F342, Fr.ofArgs, e1, e2]
 repeat' (refine brn_split (fun h => ?_) (fun h => ?_) <;> (try simp at h) <;> (try simp [h]))
 all_goals first | omega | simp_all
 all_goals omega
theorem bo_lssS {R : Type} (a b : List UInt8) {d : DV → Option R} : bo (binA .lss (.d (.s a)) (.d (.s b))) (.h d) = d (.b (Op.bytesLess a b)) := rfl
theorem bo_gtrS {R : Type} (a b : List UInt8) {d : DV → Option R} : bo (binA .gtr (.d (.s a)) (.d (.s b))) (.h d) = d (.b (!(Op.bytesLess a b || a == b))) := rfl
theorem gtrS (a b : List UInt8) (h : Op.bytesLess a b = false) : (!(Op.bytesLess a b || a == b)) = Op.bytesLess b a := by
 rw [h, Bool.false_or]
 cases hb : Op.bytesLess b a with
 | true =>
  have : a ≠ b := by intro e; subst e; rw [bl_irr] at hb; cases hb
  simpa using this
 | false => simp [bl_tri h hb]
theorem val268 (T : Tab) (hN : HN T) (x y : List UInt8) : T.val 268 [.s x, .s y] = some (.d (I (cmS2 x y)), false) := by
 rw [val_k T (hN 268 F268 rfl) rfl]
 have e1 := val344 T hN x
 have e2 := val344 T hN y
 unfold cmS2
 simp [F268, Fr.ofArgs, e1, e2, ↓bo_lssS]
 refine brn_split (fun h => ?_) (fun h => ?_)
 ·simp [h]
 ·have g := gtrS x y h
  rw [h] at g
  simp [h, ↓bo_gtrS]
  refine brn_split (fun h2 => ?_) (fun h2 => ?_)
  ·rw [h2] at g
   simp
   exact g.symm
  ·rw [h2] at g
   simp
   exact g.symm
def orL : List Int → Int
 | [] => 0
 | x :: r => if x = 0 then orL r else x
theorem lp341_0 (T : Tab) (l : List Int) (t : Bool) (hn : l.length ≤ maxLen) {k : KC (PV × Bool)} {r : Int → Option (PV × Bool)} {fr : Fr} {H : Heap}
  (hr : ∀ fr x, fr.get 2 = .d (I x) → ghosts fr = [] → k .ret fr [] = r x)
  (h0 : gc [3, 6, 7, 8] 0 ⟨fr, H⟩ = ⟨[(8, .d (I 0)), (7, .d (I l.length)), (6, .d (.l K0 (l.map I) t)), (3, .d (I 0))], []⟩)
  (he : k (.exit 0) [(9, .d (.b false)), (8, .d (I l.length)), (7, .d (I l.length)), (6, .d (.l K0 (l.map I) t)), (3, .d (I 0))] [] = r 0) :
  kC T.env 0 fr H (.h (.loop [3, 6, 7, 8] L341_0, k)) = r (orL l) := by
 have hm := mxl
 rw [loop_rounds l (fun i _ => ⟨[(8, .d (I i)), (7, .d (I l.length)), (6, .d (.l K0 (l.map I) t)), (3, .d (I 0))], []⟩) (fun _ _ => True) (fun i _ x c => if x = 0 then c () else r x) (fun _ => r 0) ?_ ?_ h0 trivial]
 ·have : ∀ (l : List Int) (i : Nat), rounds (fun i (_ : Unit) x c => if x = 0 then c () else r x) (fun _ => r 0) i () l = r (orL l) := by
   intro l
   induction l with
   | nil => intro i; rfl
   | cons x l ih =>
    intro i
    rw [rounds, orL]
    split
    ·exact ih (i + 1)
    ·rfl
  exact this l 0
 ·intro B _ _ _
  rw [← he]
  simp [L341_0]
 ·intro B _ i _ hi _ c hc
  have h1 : (i : Int) < l.length := by omega
  have h3 := wr1 (i := i) (by omega)
  by_cases hz : l[i] = 0
  ·rw [if_pos hz]
   simp [L341_0, h1, hi, h3, hz, bne]
   exact hc () _ _ trivial (by simp [gc, Fr.keep, reach, frRefs, heapRefs, PV.refs, gcH, PV.ren, Obj.ren, Heap.obj, Fr.ren, gh])
  ·rw [if_neg hz]
   have hz' : (l[i] == 0) = false := by simpa using hz
   simp [L341_0, h1, hi, hz', bne]
   exact hr _ _ (by simp [Fr.get]) (by simp [ghosts, gh])
theorem val341 (T : Tab) (hN : HN T) (l : List Int) (t : Bool) (hn : l.length ≤ maxLen) : T.val 341 [.l K0 (l.map I) t] = some (.d (I (orL l)), false) := by
 rw [val_k T (hN 341 F341 rfl) rfl]
 have lp := fun k r fr H => @lp341_0 T l t hn k r fr H
 simp [F341, Fr.ofArgs]
 refine lp _ (fun x => some (.d (I x), false)) _ _ ?_ (by simp [gc, Fr.keep, reach, frRefs, heapRefs, PV.refs, gcH, PV.ren, Obj.ren, Heap.obj, Fr.ren, gh]) ?_
 ·intro fr x h hg
  simp [h, hg, fin_ret]
 ·simp
theorem val263 (T : Tab) (hN : HN T) (a b : ALeg) : T.val 263 [a.dv, b.dv] = some (.d (I (cmL a b)), false) := by
 rw [val_k T (hN 263 F263 rfl) rfl]
 have e1 := val342 T hN a.Account b.Account
 have e2 := val268 T hN a.Currency b.Currency
 have e3 := val341 T hN [cmI2 a.Account b.Account, cmS2 a.Currency b.Currency] false (by show 2 ≤ maxLen; decide)
 have e4 : orL [cmI2 a.Account b.Account, cmS2 a.Currency b.Currency] = cmL a b := by
  simp only [orL, cmL]
  split
  ·split
   ·rename_i h; rw [h]
   ·rfl
  ·rfl
 rw [e4] at e3
 simp only [List.map_cons, List.map_nil] at e3
 simp [F263, Fr.ofArgs, e1, e2, e3, ↓kC_regD, ↓kDq_nil, ↓kDq_O, ↓aftD_go, nfp_go, ↓d_mov, ↓d_bsl, ↓d_load, ↓d_faddr, ↓d_call0, accD, writeS, touchS, footD, storeD, chg, roOf, runs, pairsD, disj, PV.refs, IOp.okD, Nat.testBit, b_bsl, bsl_n, bsl_c, purs, pur, purC]
end Go.Sim
end
section
namespace Go.Sim
set_option maxRecDepth 10000
set_option maxHeartbeats 4000000
theorem lp262 (T : Tab) (hN : HN T) (l : List ALeg) (hs : Srt l) (x : ALeg) (w : DV) (t : Bool) (hn : l.length < 1000000) {k : KC (PV × Heap)} {r : Option (PV × Heap)}
  (he : ∀ b, k (.exit 0) [(17, .d (.b b)), (10, .d (I (plc l x))), (9, .d (I (plc l x))), (8, .d (I l.length)), (4, .p 2 0 0), (2, .f 263 []), (0, .r 0 (K1 3) 0 l.length t)] [some (.sl (K1 3) 0 (l.map ALeg.dv)), some (.box (K1 3) (.d w)), some (.box (K1 3) (.d x.dv))] = r)
  (lo hi : Nat) (h1 : lo ≤ plc l x) (h2 : plc l x ≤ hi) (h3 : hi ≤ l.length) {fr : Fr} {H : Heap}
  (h0 : gc [0, 2, 4, 8, 9, 10] 2 ⟨fr, H⟩ = ⟨[(10, .d (I hi)), (9, .d (I lo)), (8, .d (I l.length)), (4, .p 2 0 0), (2, .f 263 []), (0, .r 0 (K1 3) 0 l.length t)], [some (.sl (K1 3) 0 (l.map ALeg.dv)), some (.box (K1 3) (.d w)), some (.box (K1 3) (.d x.dv))]⟩) :
  kC T.env 2 fr H (.h (.loop [0, 2, 4, 8, 9, 10] L262_0, k)) = r := by
 refine loop_meas (fun s : Nat × Nat => ⟨[(10, .d (I s.2)), (9, .d (I s.1)), (8, .d (I l.length)), (4, .p 2 0 0), (2, .f 263 []), (0, .r 0 (K1 3) 0 l.length t)], [some (.sl (K1 3) 0 (l.map ALeg.dv)), some (.box (K1 3) (.d w)), some (.box (K1 3) (.d x.dv))]⟩) (fun s => s.1 ≤ plc l x ∧ plc l x ≤ s.2 ∧ s.2 ≤ l.length) (fun s => s.2 - s.1) ?_ (lo, hi) ⟨h1, h2, h3⟩ h0
 rintro B - ⟨a, b⟩ ⟨ha, hb, hc⟩ hx
 simp only at ha hb hc hx ⊢
 have hx' := fun (s' : Nat × Nat) => hx s'
 clear hx
 by_cases hab : a < b
 ·obtain ⟨m, hm⟩ : ∃ m, (a + b) / 2 = m := ⟨_, rfl⟩
  have g1 : ((a : Int) < b) := by omega
  have g2 : m < l.length := by omega
  have g3 : (m : Int) < l.length := by omega
  have w1 : IntKind.i64.wrap ((a : Int) + b) = ((a + b : Nat) : Int) := by rw [wrI (by omega) (by omega)]; omega
  have w2 : IntKind.u64.wrap ((a + b : Nat) : Int) = ((a + b : Nat) : Int) := wrU (by omega) (by omega)
  have w3 : Int.fdiv ((a + b : Nat) : Int) (2 ^ min 1 IntKind.u64.bits) = (((a + b) / 2 : Nat) : Int) := half_i (a + b)
  rw [hm] at w3
  have w4 : IntKind.i64.wrap (m : Int) = m := wrI (by omega) (by omega)
  have w5 : IntKind.i64.wrap ((m : Int) + 1) = (m : Int) + 1 := wrI (by omega) (by omega)
  obtain ⟨z, hz⟩ : ∃ z : Int, ((a + b : Nat) : Int) = z := ⟨_, rfl⟩
  rw [hz] at w1 w2 w3
  have e := val263 T hN l[m] x
  have e2 := cmL_lt l[m] x
  simp [L262_0, ↓kC_regD, ↓kDq_nil, ↓kDq_O, ↓aftD_go, nfp_go, ↓d_mov, ↓d_load, ↓d_bin, ↓d_iaddr, accD, writeS, touchS, footD, storeD, chg, roOf, runs, pairsD, disj, PV.refs, IOp.okD, Nat.testBit, g1, g2, g3, w1, w2, w3, w4, ↓b_conv, ↓convK_i, ↓bo_shr, ↓bo_iaR, ↓subDw, ↓d_callv, ↓clvD_f, plains, e, e2]
  refine brn_split (fun h => ?_) (fun h => ?_)
  ·have hlt : m < plc l x := by
    by_cases hh : m < plc l x
    ·exact hh
    ·rw [plc_ge hs x m g2 (by omega)] at h; cases h
   simp [w4, w5]
   refine hx' (m + 1, b) ⟨by omega, by omega, by omega⟩ (by simp only; omega) _ _ ?_
   simp [gc, Fr.keep, reach, frRefs, heapRefs, PV.refs, PV.refsL, place, gcH, orefs, Obj.refs, PV.ren, PV.renL, Obj.ren, Heap.obj, Fr.ren, gh, List.idxOf?_cons]
  ·have hge : plc l x ≤ m := by
    by_cases hh : plc l x ≤ m
    ·exact hh
    ·rw [plc_lt l x m g2 (by omega)] at h; cases h
   simp [w4]
   refine hx' (a, m) ⟨by omega, by omega, by omega⟩ (by simp only; omega) _ _ ?_
   simp [gc, Fr.keep, reach, frRefs, heapRefs, PV.refs, PV.refsL, place, gcH, orefs, Obj.refs, PV.ren, PV.renL, Obj.ren, Heap.obj, Fr.ren, gh, List.idxOf?_cons]
 ·have : a = b := by omega
  subst this
  have hp : plc l x = a := by omega
  rw [hp] at he
  simp [L262_0, he]
def fnd (l : List ALeg) (x : ALeg) : Bool := match l[plc l x]? with | some y => !ltL x y | none => false
theorem ref262 (T : Tab) (hN : HN T) (l : List ALeg) (hs : Srt l) (x : ALeg) (w : DV) (t : Bool) (hn : l.length < 1000000) :
  T.ref 262 [.r 0 (K1 3) 0 l.length t, .d x.dv, .f 263 []] [some (.sl (K1 3) 0 (l.map ALeg.dv)), some (.box (K1 3) (.d w))] = some (.t [.d (I (plc l x)), .d (.b (fnd l x))], [some (.sl (K1 3) 0 (l.map ALeg.dv)), some (.box (K1 3) (.d w))]) := by
 rw [ref_k T (hN 262 F262 rfl) rfl]
 have hH : Cl [some (.sl (K1 3) 0 (l.map ALeg.dv)), some (.box (K1 3) (.d w))] := fun r h => by simp [heapRefs, orefs, Obj.refs, PV.refs] at h
 have lp := fun k r he fr H => @lp262 T hN l hs x w t hn k r he 0 l.length (Nat.zero_le _) (plc_le l x) (Nat.le_refl _) fr H
 have hgc : ∀ v J, gcV 2 (.t [.d v, .d (.b (fnd l x))]) (some (.sl (K1 3) 0 (l.map ALeg.dv)) :: some (.box (K1 3) (.d w)) :: J) = (.t [.d v, .d (.b (fnd l x))], [some (.sl (K1 3) 0 (l.map ALeg.dv)), some (.box (K1 3) (.d w))]) := fun v J => gcV_low hH (by simp [PV.refs, PV.refsL])
 simp [F262, Fr.ofArgs]
 refine lp _ _ (fun b => ?_) _ _ (by simp [gc, Fr.keep, reach, frRefs, heapRefs, PV.refs, PV.refsL, place, gcH, orefs, Obj.refs, PV.ren, PV.renL, Obj.ren, Heap.obj, Fr.ren, gh, List.idxOf?_cons])
 by_cases hp : plc l x < l.length
 ·have e := val263 T hN l[plc l x] x
  have e2 := cmL_eq l[plc l x] x (plc_at l x hp)
  have hf : fnd l x = !ltL x l[plc l x] := by rw [fnd, List.getElem?_eq_getElem hp]
  rw [← hf] at e2
  have g3 : (plc l x : Int) < l.length := by omega
  generalize plc l x = m at *
  simp [↓kC_regD, ↓kDq_nil, ↓kDq_O, ↓kDq_OG, ↓aftD_go, nfp_go, ↓d_mov, ↓d_pick, ↓d_load, ↓d_bin, ↓d_iaddr, accD, writeS, touchS, footD, storeD, chg, roOf, runs, pairsD, disj, PV.refs, IOp.okD, Nat.testBit, hp, g3, ↓bo_iaR, ↓subDw, ↓d_callv, ↓clvD_f, plains, e, e2, finR_ret]
  exact hgc _ _
 ·have hf : fnd l x = false := by rw [fnd, List.getElem?_eq_none (by omega)]
  have hp' : ¬ ((plc l x : Int) < l.length) := by omega
  rw [hf] at hgc ⊢
  simp [↓kC_regD, ↓kDq_nil, ↓kDq_O, ↓kDq_OG, ↓aftD_go, nfp_go, ↓d_mov, ↓d_pick, ↓d_load, ↓d_bin, ↓d_iaddr, accD, writeS, touchS, footD, storeD, chg, roOf, runs, pairsD, disj, PV.refs, PV.refsL, IOp.okD, Nat.testBit, hp', finR_ret]
  exact hgc _ _
end Go.Sim
end
section
namespace Go.Sim
set_option maxRecDepth 10000
set_option maxHeartbeats 4000000
abbrev HI (T : Tab) : Prop := ∀ args H, T.ref 264 args H = insX (K1 3) 32 args H
theorem dcells_i (k : IntKind) (n : Int) : DV.cells (.i k n) = [.i k n] := rfl
theorem ref262_n (T : Tab) (hN : HN T) (x : ALeg) (w : DV) :
  T.ref 262 [.d (.l (K1 3) [] true), .d x.dv, .f 263 []] [some (.box (K1 3) (.d w))] = some (.t [.d (I 0), .d (.b false)], [some (.box (K1 3) (.d w))]) := by
 rw [ref_k T (hN 262 F262 rfl) rfl]
 have hH : Cl [some (.box (K1 3) (.d w))] := fun r h => by simp [heapRefs, orefs, Obj.refs, PV.refs] at h
 have hgc : ∀ J, gcV 1 (.t [.d (I 0), .d (.b false)]) (some (.box (K1 3) (.d w)) :: J) = (.t [.d (I 0), .d (.b false)], [some (.box (K1 3) (.d w))]) := fun J => gcV_low hH (by simp [PV.refs, PV.refsL])
 simp [F262, Fr.ofArgs]
 rw [kC_loop]
 simp [gc, Fr.keep, reach, frRefs, heapRefs, PV.refs, PV.refsL, place, gcH, orefs, Obj.refs, PV.ren, PV.renL, Obj.ren, Heap.obj, Fr.ren, gh, List.idxOf?_cons]
 simp [L262_0, ↓kC_regD, ↓kDq_nil, ↓kDq_O, ↓kDq_OG, ↓aftD_go, nfp_go, ↓d_mov, ↓d_pick, ↓d_load, ↓d_bin, ↓d_iaddr, accD, writeS, touchS, footD, storeD, chg, roOf, runs, pairsD, disj, PV.refs, PV.refsL, IOp.okD, Nat.testBit, finR_ret]
 exact hgc _
theorem lp179 (T : Tab) (hN : HN T) (hI : HI T) (l : List ALeg) (t : Bool) (hn : l.length < 1000000) {k : KC (PV × Bool)} {fr : Fr} {H : Heap}
  (h0 : gc [0, 9, 10, 11] 0 ⟨fr, H⟩ = ⟨[(11, .d (I 0)), (10, .d (I l.length)), (9, .d (.l (K1 3) (l.map ALeg.dv) t)), (0, .d (.l (K1 3) [] true))], []⟩) :
  kC T.env 0 fr H (.h (.loop [0, 9, 10, 11] L179_0, k)) = k (.exit 0) [(12, .d (.b false)), (11, .d (I l.length)), (10, .d (I l.length)), (9, .d (.l (K1 3) (l.map ALeg.dv) t)), (0, outV (K1 3) ((l.foldl insG []).map ALeg.dv))] (outO (K1 3) ((l.foldl insG []).map ALeg.dv)) := by
 rw [loop_rounds l (fun i (g : List ALeg) => ⟨[(11, .d (I i)), (10, .d (I l.length)), (9, .d (.l (K1 3) (l.map ALeg.dv) t)), (0, outV (K1 3) (g.map ALeg.dv))], outO (K1 3) (g.map ALeg.dv)⟩) (fun i g => Srt g ∧ g.length ≤ i) (fun _ g x c => c (insG g x)) (fun g => k (.exit 0) [(12, .d (.b false)), (11, .d (I l.length)), (10, .d (I l.length)), (9, .d (.l (K1 3) (l.map ALeg.dv) t)), (0, outV (K1 3) (g.map ALeg.dv))] (outO (K1 3) (g.map ALeg.dv))) ?_ ?_ (b0 := []) h0 ⟨List.Pairwise.nil, Nat.le_refl _⟩]
 ·rw [rounds_fold (fun _ g x => insG g x) _ _ (fun _ _ _ _ => rfl)]
  have : ∀ (l : List ALeg) (i : Nat) (g : List ALeg), foldN (fun _ g x => insG g x) i g l = l.foldl insG g := by
   intro l
   induction l with
   | nil => intro _ _; rfl
   | cons x l ih => intro i g; rw [foldN, ih, List.foldl_cons]
  rw [this]
 ·intro B _ g _
  cases g with
  | nil => simp [L179_0, outV, outO]
  | cons y g => simp [L179_0, outV, outO]
 ·intro B _ i g hi hg c hc
  have h1 : (i : Int) < l.length := by omega
  have h3 := wr1 (i := i) (by omega)
  have hg' : Srt (insG g l[i]) ∧ (insG g l[i]).length ≤ i + 1 := ⟨srt_insG _ hg.1, Nat.le_trans (insG_len _ _) (by omega)⟩
  have hc' := fun fr H => hc (insG g l[i]) fr H hg'
  clear hc
  generalize hx : l[i] = x at *
  cases g with
  | nil =>
   have e := ref262_n T hN x x.dv
   have hz : insG [] x = [x] := rfl
   rw [hz] at hc' ⊢
   simp [L179_0, outV, outO, h1, hi, h3, hx, e, hI, insX, elemsA]
   exact hc' _ _ (by simp [gc, Fr.keep, reach, frRefs, heapRefs, PV.refs, place, gcH, orefs, Obj.refs, PV.ren, Obj.ren, Heap.obj, Fr.ren, gh, List.idxOf?_cons, outV, outO])
  | cons y g =>
   obtain ⟨gl, hgl⟩ : ∃ gl, y :: g = gl := ⟨_, rfl⟩
   have hov : outV (K1 3) (List.map ALeg.dv (y :: g)) = .r 0 (K1 3) 0 gl.length false := by subst hgl; simp [outV]
   have hoo : outO (K1 3) (List.map ALeg.dv (y :: g)) = [some (.sl (K1 3) 0 (gl.map ALeg.dv))] := by subst hgl; simp [outO]
   have hov' : ∀ m, m ≠ [] → outV (K1 3) (List.map ALeg.dv m) = .r 0 (K1 3) 0 m.length false := fun m hm => by
    cases m with
    | nil => exact absurd rfl hm
    | cons a b => simp [outV]
   have hoo' : ∀ m, m ≠ [] → outO (K1 3) (List.map ALeg.dv m) = [some (.sl (K1 3) 0 (m.map ALeg.dv))] := fun m hm => by
    cases m with
    | nil => exact absurd rfl hm
    | cons a b => simp [outO]
   simp only [hov, hoo]
   simp only [hgl] at hg hg' hc' ⊢
   rw [hov' _ (insG_ne gl x), hoo' _ (insG_ne gl x)] at hc'
   clear hov hoo hov' hoo' hgl
   have hlen : gl.length < 1000000 := by omega
   have e := ref262 T hN gl hg.1 x x.dv false hlen
   cases hf : fnd gl x with
   | true =>
    rw [hf] at e
    have hp : plc gl x < gl.length := by
     unfold fnd at hf
     split at hf
     ·rename_i h; exact (List.getElem?_eq_some_iff.1 h).1
     ·cases hf
    have hl : ltL x gl[plc gl x] = false := by
     rw [fnd, List.getElem?_eq_getElem hp] at hf
     simpa using hf
    rw [insG_old gl x hp hl] at hc' ⊢
    generalize plc gl x = p at *
    have g3 : (p : Int) < gl.length := by omega
    have hm : ∀ n, mkD (some 3) (putAt gl[p].dv.cells 1 [.i .i64 n]) = some (ALeg.dv ⟨gl[p].Account, n, gl[p].Currency⟩) := fun _ => rfl
    simp [L179_0, h1, hi, h3, hx, e, hp, g3, ↓kC_regD, ↓kDq_nil, ↓kDq_O, ↓kDq_E, ↓aftD_go, nfp_go, ↓d_mov, ↓d_load, ↓d_store, ↓d_bin, ↓d_faddr, ↓d_iaddr, accD, writeS, touchS, footD, storeD, chg, roOf, runs, pairsD, disj, PV.refs, IOp.okD, Nat.testBit, ↓bo_iaR, -st_p, ↓st_pm, ↓stM_box, ↓stM_sl, ↓subD0, size_n, hm, dcells_i]
    refine hc' _ _ ?_
    rw [show ∀ v : ALeg, (gl.map ALeg.dv).set p v.dv = (gl.set p v).map ALeg.dv from fun v => List.map_set.symm]
    simp [gc, Fr.keep, reach, frRefs, heapRefs, PV.refs, place, gcH, orefs, Obj.refs, PV.ren, Obj.ren, Heap.obj, Fr.ren, gh, List.idxOf?_cons, addL, w64]
   | false =>
    rw [hf] at e
    have hl : ∀ h : plc gl x < gl.length, ltL x gl[plc gl x] = true := fun h => by
     rw [fnd, List.getElem?_eq_getElem h] at hf
     simpa using hf
    have hpl := plc_le gl x
    rw [insG_new gl x hl] at hc' ⊢
    generalize plc gl x = p at *
    have g3 : (p : Int) ≤ gl.length := by omega
    have g4 : (gl.length + 1) * 32 ≤ 140737488355328 := by omega
    have g5 : (gl.map ALeg.dv).take gl.length = gl.map ALeg.dv := List.take_of_length_le (by simp)
    have g6 : Nat.beq 0 2 = false := rfl
    simp [L179_0, h1, hi, h3, hx, e, hI, insX, elemsA, g3, g4, g5, g6]
    refine hc' _ _ ?_
    simp [gc, Fr.keep, reach, frRefs, heapRefs, PV.refs, place, gcH, orefs, Obj.refs, PV.ren, Obj.ren, Heap.obj, Fr.ren, gh, List.idxOf?_cons]
    omega
theorem val179 (T : Tab) (hN : HN T) (hI : HI T) (l : List ALeg) (t : Bool) (hn : l.length < 1000000) : T.val 179 [.l (K1 3) [] true, .l (K1 3) (l.map ALeg.dv) t] = some (.d (.l (K1 3) ((l.foldl insG []).map ALeg.dv) false), true) := by
 rw [val_k T (hN 179 F179 rfl) rfl]
 have lp := fun k fr H => @lp179 T hN hI l t hn k fr H
 simp [F179, Fr.ofArgs]
 refine (lp _ _ _ (by simp [gc, Fr.keep, reach, frRefs, heapRefs, PV.refs, gcH, PV.ren, Obj.ren, Heap.obj, Fr.ren, gh])).trans ?_
 generalize l.foldl insG [] = g
 cases g with
 | nil => simp [outV, outO]
 | cons x g =>
  have ht : (g.map ALeg.dv).take g.length = g.map ALeg.dv := List.take_of_length_le (by simp)
  simp [outV, outO, ht]
theorem val181 (T : Tab) (hN : HN T) (x : ALeg) : T.val 181 [x.dv] = some (.d (.b (x.Amount == 0)), false) := by
 rw [val_k T (hN 181 F181 rfl) rfl]
 simp [F181, Fr.ofArgs]
def isZ (x : ALeg) : Bool := x.Amount == 0
theorem lpIdx0 (T : Tab) (hN : HN T) (l : List ALeg) (hn : l.length ≤ maxLen) {k : KC (PV × Heap)} {r : Nat → Option (PV × Heap)} {fr : Fr} {H : Heap}
  (hr : ∀ (j : Nat) fr J, fr.get 4 = .d (I j) → ghosts fr = [] → k .ret fr ([some (.sl (K1 3) 0 (l.map ALeg.dv))] ++ J) = r j)
  (h0 : gc [0, 1, 7, 8] 1 ⟨fr, H⟩ = ⟨[(8, .d (I 0)), (7, .d (I l.length)), (1, .f 181 []), (0, .r 0 (K1 3) 0 l.length false)], [some (.sl (K1 3) 0 (l.map ALeg.dv))]⟩) :
  kC T.env 1 fr H (.h (.loop [0, 1, 7, 8] (LidxG (K1 3)), k)) = match l.findIdx? isZ with | some j => r j | none => k (.exit 0) [(9, .d (.b false)), (8, .d (I l.length)), (7, .d (I l.length)), (1, .f 181 []), (0, .r 0 (K1 3) 0 l.length false)] [some (.sl (K1 3) 0 (l.map ALeg.dv))] := by
 rw [loop_rounds l (fun i _ => ⟨[(8, .d (I i)), (7, .d (I l.length)), (1, .f 181 []), (0, .r 0 (K1 3) 0 l.length false)], [some (.sl (K1 3) 0 (l.map ALeg.dv))]⟩) (fun _ _ => True) (fun i _ x c => if isZ x = true then r i else c ()) (fun _ => k (.exit 0) [(9, .d (.b false)), (8, .d (I l.length)), (7, .d (I l.length)), (1, .f 181 []), (0, .r 0 (K1 3) 0 l.length false)] [some (.sl (K1 3) 0 (l.map ALeg.dv))]) ?_ ?_ h0 trivial]
 ·rw [rounds_find isZ r _ _ (fun _ _ _ _ => rfl)]
  simp only [Nat.zero_add]
  try (cases l.findIdx? isZ <;> rfl)
 ·intro B _ _ _
  simp [LidxG]
 ·intro B _ i _ hi _ cc hcc
  have hm := mxl
  have h1 : (i : Int) < l.length := by omega
  have h3 := wr1 (i := i) (by omega)
  have he := val181 T hN l[i]
  simp [LidxG, h1, hi, he, ↓bo_iaR, ↓subDw, plains]
  refine brn_split (fun h => ?_) (fun h => ?_)
  ·rw [if_pos (show isZ l[i] = true from h)]
   simp
   simpa using hr i _ [] (by simp [Fr.get]) (by simp [ghosts, gh])
  ·rw [if_neg (by rw [isZ, h]; decide)]
   simp [h3]
   exact hcc () _ _ trivial (by simp [gc, Fr.keep, reach, frRefs, heapRefs, PV.refs, PV.refsL, place, gcH, orefs, Obj.refs, PV.ren, PV.renL, Obj.ren, Heap.obj, Fr.ren, gh])
theorem ref265_0 (T : Tab) (hN : HN T) (l : List ALeg) (hn : l.length ≤ maxLen) : T.ref 265 [.r 0 (K1 3) 0 l.length false, .f 181 []] [some (.sl (K1 3) 0 (l.map ALeg.dv))] = some (.d (I (idxI isZ l)), [some (.sl (K1 3) 0 (l.map ALeg.dv))]) := by
 rw [ref_k T (hN 265 F265 rfl) rfl]
 have hH : Cl [some (.sl (K1 3) 0 (l.map ALeg.dv))] := fun r h => by simp [heapRefs, orefs, Obj.refs] at h
 have lp := fun k r fr H => @lpIdx0 T hN l hn k r fr H
 have hg : ∀ v J, gcV 1 (.d v) (some (.sl (K1 3) 0 (l.map ALeg.dv)) :: J) = (.d v, [some (.sl (K1 3) 0 (l.map ALeg.dv))]) := fun v J => gcVd hH J v
 simp [F265, FidxG, Fr.ofArgs]
 refine (lp _ (fun j => some (.d (I j), [some (.sl (K1 3) 0 (l.map ALeg.dv))])) _ _ ?_ (by simp [gc, Fr.keep, reach, frRefs, heapRefs, PV.refs, PV.refsL, place, gcH, orefs, Obj.refs, PV.ren, PV.renL, Obj.ren, Heap.obj, Fr.ren, gh])).trans ?_
 ·intro j fr J h1 h2
  simp [h1, h2, finR_ret, hg]
 ·unfold idxI
  cases l.findIdx? isZ with
  | some j => rfl
  | none => simp [finR_ret, hg]
end Go.Sim
end
section
namespace Go.Sim
set_option maxRecDepth 10000
set_option maxHeartbeats 4000000
def zM (x : ALeg) : ALeg := ⟨0, x.Amount, x.Currency⟩
def mdv (x : ALeg) : DV := .a [.s x.Currency, I x.Amount]
def Z0 (g : List ALeg) : Prop := ∀ y ∈ g, y.Account = 0
theorem mcells (x : ALeg) : (mdv x).cells = [.s x.Currency, I x.Amount] := rfl
theorem mfits (x : ALeg) : fits (K1 2) (.d (mdv x)) = true := rfl
theorem z0_ins {g : List ALeg} (x : ALeg) (h : Z0 g) : Z0 (insG g (zM x)) := fun y hy => by
 rcases mem_insG hy with h1 | h1
 ·exact h y h1
 ·exact h1.1
theorem cmL_z {a b : ALeg} (ha : a.Account = 0) (hb : b.Account = 0) : cmL a b = cmS2 a.Currency b.Currency := by
 simp [cmL, ha, hb, cmI2]
theorem val267 (T : Tab) (hN : HN T) (hP : HP T) (y : ALeg) (c : List UInt8) : T.val 267 [mdv y, .s c] = some (.d (I (cmS2 y.Currency c)), false) := by
 rw [val_k T (hP 267 F267 rfl) rfl]
 have e := val268 T hN y.Currency c
 simp [F267, Fr.ofArgs, e, mfits, mcells]
theorem lp266 (T : Tab) (hN : HN T) (hP : HP T) (l : List ALeg) (hs : Srt l) (hz0 : Z0 l) (x : ALeg) (hx0 : x.Account = 0) (w : DV) (t : Bool) (hn : l.length < 1000000) {k : KC (PV × Heap)} {r : Option (PV × Heap)}
  (he : ∀ b, k (.exit 0) [(17, .d (.b b)), (10, .d (I (plc l x))), (9, .d (I (plc l x))), (8, .d (I l.length)), (2, .f 267 []), (1, .d (.s x.Currency)), (0, .r 0 (K1 2) 0 l.length t)] [some (.sl (K1 2) 0 (l.map mdv)), some (.box (K1 3) (.d w))] = r)
  (lo hi : Nat) (h1 : lo ≤ plc l x) (h2 : plc l x ≤ hi) (h3 : hi ≤ l.length) {fr : Fr} {H : Heap}
  (h0 : gc [0, 1, 2, 8, 9, 10] 2 ⟨fr, H⟩ = ⟨[(10, .d (I hi)), (9, .d (I lo)), (8, .d (I l.length)), (2, .f 267 []), (1, .d (.s x.Currency)), (0, .r 0 (K1 2) 0 l.length t)], [some (.sl (K1 2) 0 (l.map mdv)), some (.box (K1 3) (.d w))]⟩) :
  kC T.env 2 fr H (.h (.loop [0, 1, 2, 8, 9, 10] L266_0, k)) = r := by
 refine loop_meas (fun s : Nat × Nat => ⟨[(10, .d (I s.2)), (9, .d (I s.1)), (8, .d (I l.length)), (2, .f 267 []), (1, .d (.s x.Currency)), (0, .r 0 (K1 2) 0 l.length t)], [some (.sl (K1 2) 0 (l.map mdv)), some (.box (K1 3) (.d w))]⟩) (fun s => s.1 ≤ plc l x ∧ plc l x ≤ s.2 ∧ s.2 ≤ l.length) (fun s => s.2 - s.1) ?_ (lo, hi) ⟨h1, h2, h3⟩ h0
 rintro B - ⟨a, b⟩ ⟨ha, hb, hc⟩ hx
 simp only at ha hb hc hx ⊢
 have hx' := fun (s' : Nat × Nat) => hx s'
 clear hx
 by_cases hab : a < b
 ·obtain ⟨m, hm⟩ : ∃ m, (a + b) / 2 = m := ⟨_, rfl⟩
  have g1 : ((a : Int) < b) := by omega
  have g2 : m < l.length := by omega
  have g3 : (m : Int) < l.length := by omega
  have w1 : IntKind.i64.wrap ((a : Int) + b) = ((a + b : Nat) : Int) := by rw [wrI (by omega) (by omega)]; omega
  have w2 : IntKind.u64.wrap ((a + b : Nat) : Int) = ((a + b : Nat) : Int) := wrU (by omega) (by omega)
  have w3 : Int.fdiv ((a + b : Nat) : Int) (2 ^ min 1 IntKind.u64.bits) = (((a + b) / 2 : Nat) : Int) := half_i (a + b)
  rw [hm] at w3
  have w4 : IntKind.i64.wrap (m : Int) = m := wrI (by omega) (by omega)
  have w5 : IntKind.i64.wrap ((m : Int) + 1) = (m : Int) + 1 := wrI (by omega) (by omega)
  obtain ⟨z, hz⟩ : ∃ z : Int, ((a + b : Nat) : Int) = z := ⟨_, rfl⟩
  rw [hz] at w1 w2 w3
  have e := val267 T hN hP l[m] x.Currency
  have e2 := cmL_lt l[m] x
  rw [cmL_z (hz0 _ (List.getElem_mem _)) hx0] at e2
  simp [L266_0, g1, g2, g3, w1, w2, w3, w4, ↓b_conv, ↓convK_i, ↓bo_shr, ↓bo_iaR, ↓subDw, plains, e, e2]
  refine brn_split (fun h => ?_) (fun h => ?_)
  ·have hlt : m < plc l x := by
    by_cases hh : m < plc l x
    ·exact hh
    ·rw [plc_ge hs x m g2 (by omega)] at h; cases h
   simp [w4, w5]
   refine hx' (m + 1, b) ⟨by omega, by omega, by omega⟩ (by simp only; omega) _ _ ?_
   simp [gc, Fr.keep, reach, frRefs, heapRefs, PV.refs, PV.refsL, place, gcH, orefs, Obj.refs, PV.ren, PV.renL, Obj.ren, Heap.obj, Fr.ren, gh]
  ·have hge : plc l x ≤ m := by
    by_cases hh : plc l x ≤ m
    ·exact hh
    ·rw [plc_lt l x m g2 (by omega)] at h; cases h
   simp [w4]
   refine hx' (a, m) ⟨by omega, by omega, by omega⟩ (by simp only; omega) _ _ ?_
   simp [gc, Fr.keep, reach, frRefs, heapRefs, PV.refs, PV.refsL, place, gcH, orefs, Obj.refs, PV.ren, PV.renL, Obj.ren, Heap.obj, Fr.ren, gh]
 ·have : a = b := by omega
  subst this
  have hp : plc l x = a := by omega
  rw [hp] at he
  simp [L266_0, he]
theorem ref266 (T : Tab) (hN : HN T) (hP : HP T) (l : List ALeg) (hs : Srt l) (hz0 : Z0 l) (x : ALeg) (hx0 : x.Account = 0) (w : DV) (t : Bool) (hn : l.length < 1000000) :
  T.ref 266 [.r 0 (K1 2) 0 l.length t, .d (.s x.Currency), .f 267 []] [some (.sl (K1 2) 0 (l.map mdv)), some (.box (K1 3) (.d w))] = some (.t [.d (I (plc l x)), .d (.b (fnd l x))], [some (.sl (K1 2) 0 (l.map mdv)), some (.box (K1 3) (.d w))]) := by
 rw [ref_k T (hP 266 F266 rfl) rfl]
 have hH : Cl [some (.sl (K1 2) 0 (l.map mdv)), some (.box (K1 3) (.d w))] := fun r h => by simp [heapRefs, orefs, Obj.refs, PV.refs] at h
 have lp := fun k r he fr H => @lp266 T hN hP l hs hz0 x hx0 w t hn k r he 0 l.length (Nat.zero_le _) (plc_le l x) (Nat.le_refl _) fr H
 have hgc : ∀ v J, gcV 2 (.t [.d v, .d (.b (fnd l x))]) (some (.sl (K1 2) 0 (l.map mdv)) :: some (.box (K1 3) (.d w)) :: J) = (.t [.d v, .d (.b (fnd l x))], [some (.sl (K1 2) 0 (l.map mdv)), some (.box (K1 3) (.d w))]) := fun v J => gcV_low hH (by simp [PV.refs, PV.refsL])
 simp [F266, Fr.ofArgs]
 refine lp _ _ (fun b => ?_) _ _ (by simp [gc, Fr.keep, reach, frRefs, heapRefs, PV.refs, PV.refsL, place, gcH, orefs, Obj.refs, PV.ren, PV.renL, Obj.ren, Heap.obj, Fr.ren, gh])
 by_cases hp : plc l x < l.length
 ·have e := val267 T hN hP l[plc l x] x.Currency
  have e2 := cmL_eq l[plc l x] x (plc_at l x hp)
  rw [cmL_z (hz0 _ (List.getElem_mem _)) hx0] at e2
  have hf : fnd l x = !ltL x l[plc l x] := by rw [fnd, List.getElem?_eq_getElem hp]
  rw [← hf] at e2
  have g3 : (plc l x : Int) < l.length := by omega
  generalize plc l x = m at *
  simp [hp, g3, ↓bo_iaR, ↓subDw, plains, e, e2, finR_ret]
  exact hgc _ _
 ·have hf : fnd l x = false := by rw [fnd, List.getElem?_eq_none (by omega)]
  have hp' : ¬ ((plc l x : Int) < l.length) := by omega
  rw [hf] at hgc ⊢
  simp [hp', finR_ret]
  exact hgc _ _
theorem ref266_n (T : Tab) (hP : HP T) (c : List UInt8) (w : DV) :
  T.ref 266 [.d (.l (K1 2) [] true), .d (.s c), .f 267 []] [some (.box (K1 3) (.d w))] = some (.t [.d (I 0), .d (.b false)], [some (.box (K1 3) (.d w))]) := by
 rw [ref_k T (hP 266 F266 rfl) rfl]
 have hH : Cl [some (.box (K1 3) (.d w))] := fun r h => by simp [heapRefs, orefs, Obj.refs, PV.refs] at h
 have hgc : ∀ J, gcV 1 (.t [.d (I 0), .d (.b false)]) (some (.box (K1 3) (.d w)) :: J) = (.t [.d (I 0), .d (.b false)], [some (.box (K1 3) (.d w))]) := fun J => gcV_low hH (by simp [PV.refs, PV.refsL])
 simp [F266, Fr.ofArgs]
 rw [kC_loop]
 simp [gc, Fr.keep, reach, frRefs, heapRefs, PV.refs, PV.refsL, gcH, orefs, Obj.refs, PV.ren, PV.renL, Obj.ren, Heap.obj, Fr.ren, gh]
 simp [L266_0, finR_ret]
 exact hgc _
end Go.Sim
end
section
namespace Go.Sim
set_option maxRecDepth 10000
set_option maxHeartbeats 4000000
abbrev HI2 (T : Tab) : Prop := ∀ args H, T.ref 269 args H = insX (K1 2) 24 args H
theorem outV_map (g : List ALeg) (h : g ≠ []) : outV (K1 2) (g.map mdv) = .r 0 (K1 2) 0 g.length false := by
 cases g with
 | nil => exact absurd rfl h
 | cons a b => simp [outV]
theorem outO_map (g : List ALeg) (h : g ≠ []) : outO (K1 2) (g.map mdv) = [some (.sl (K1 2) 0 (g.map mdv))] := by
 cases g with
 | nil => exact absurd rfl h
 | cons a b => simp [outO]
def insS (g : List ALeg) (x : ALeg) : List ALeg := insG g (zM x)
theorem pcl_a (l : List DV) : (PV.d (.a l)).cells = l.map .d := rfl
theorem dcl_a (l : List DV) : DV.cells (.a l) = l := rfl
theorem mkD2 (a b : DV) : mkD (K1 2) [a, b] = some (.a [a, b]) := rfl
theorem lp186 (T : Tab) (hN : HN T) (hP : HP T) (hI : HI2 T) (l : List ALeg) (t : Bool) (hn : l.length < 1000000) (ho : ∀ x ∈ l, w64 x.Amount = x.Amount) {k : KC (PV × Bool)} {fr : Fr} {H : Heap}
  (h0 : gc [3, 8, 9, 10] 0 ⟨fr, H⟩ = ⟨[(10, .d (I 0)), (9, .d (I l.length)), (8, .d (.l (K1 3) (l.map ALeg.dv) t)), (3, .d (.l (K1 2) [] true))], []⟩) :
  kC T.env 0 fr H (.h (.loop [3, 8, 9, 10] L186_0, k)) = k (.exit 0) [(11, .d (.b false)), (10, .d (I l.length)), (9, .d (I l.length)), (8, .d (.l (K1 3) (l.map ALeg.dv) t)), (3, outV (K1 2) ((l.foldl insS []).map mdv))] (outO (K1 2) ((l.foldl insS []).map mdv)) := by
 rw [loop_rounds l (fun i (g : List ALeg) => ⟨[(10, .d (I i)), (9, .d (I l.length)), (8, .d (.l (K1 3) (l.map ALeg.dv) t)), (3, outV (K1 2) (g.map mdv))], outO (K1 2) (g.map mdv)⟩) (fun i g => (Srt g ∧ Z0 g) ∧ g.length ≤ i) (fun _ g x c => c (insS g x)) (fun g => k (.exit 0) [(11, .d (.b false)), (10, .d (I l.length)), (9, .d (I l.length)), (8, .d (.l (K1 3) (l.map ALeg.dv) t)), (3, outV (K1 2) (g.map mdv))] (outO (K1 2) (g.map mdv))) ?_ ?_ (b0 := []) h0 ⟨⟨List.Pairwise.nil, fun _ h => by cases h⟩, Nat.le_refl _⟩]
 ·rw [rounds_fold (fun _ g x => insS g x) _ _ (fun _ _ _ _ => rfl)]
  have : ∀ (l : List ALeg) (i : Nat) (g : List ALeg), foldN (fun _ g x => insS g x) i g l = l.foldl insS g := by
   intro l
   induction l with
   | nil => intro _ _; rfl
   | cons x l ih => intro i g; rw [foldN, ih, List.foldl_cons]
  rw [this]
 ·intro B _ g _
  cases g with
  | nil => simp [L186_0, outV, outO]
  | cons y g => simp [L186_0, outV, outO]
 ·intro B _ i g hi hg c hc
  have h1 : (i : Int) < l.length := by omega
  have h3 := wr1 (i := i) (by omega)
  have hg' : (Srt (insS g l[i]) ∧ Z0 (insS g l[i])) ∧ (insS g l[i]).length ≤ i + 1 := ⟨⟨srt_insG _ hg.1.1, z0_ins _ hg.1.2⟩, Nat.le_trans (insG_len _ _) (by omega)⟩
  have hc' := fun fr H => hc (insS g l[i]) fr H hg'
  have hw := ho l[i] (List.getElem_mem _)
  clear hc
  generalize hx : l[i] = x at *
  have hw' : IntKind.i64.wrap x.Amount = x.Amount := hw
  cases g with
  | nil =>
   have e := ref266_n T hP x.Currency x.dv
   have hz : insS [] x = [zM x] := rfl
   rw [hz] at hc' ⊢
   simp [L186_0, outV, outO, h1, hi, h3, hw', hx, e, hI, insX, elemsA, b_agg, agg_n, agg_c, cells_s, putAt, mkA, plains, size_n, List.drop_succ_cons, List.drop_zero, List.take_succ_cons, List.take_zero, List.cons_append, List.nil_append, dcl_a, mkD2, dcells_i, ↓kC_regD, ↓kDq_nil, ↓kDq_O, ↓kDq_E, ↓aftD_go, nfp_go, ↓d_mov, ↓d_load, ↓d_store, ↓d_bin, ↓d_faddr, ↓d_iaddr, accD, writeS, touchS, footD, storeD, chg, roOf, runs, pairsD, disj, PV.refs, IOp.okD, Nat.testBit, ↓bo_iaR, -st_p, ↓st_pm, ↓stM_box, ↓stM_sl, ↓subD0]
   exact hc' _ _ (by simp [gc, Fr.keep, reach, frRefs, heapRefs, PV.refs, place, gcH, orefs, Obj.refs, PV.ren, Obj.ren, Heap.obj, Fr.ren, gh, List.idxOf?_cons, outV, outO, mdv, zM])
  | cons y g =>
   obtain ⟨gl, hgl⟩ : ∃ gl, y :: g = gl := ⟨_, rfl⟩
   have hne : y :: g ≠ [] := by simp
   rw [hgl] at hg hg' hc' hne ⊢
   simp only [outV_map _ hne, outO_map _ hne]
   have hne2 : insS gl x ≠ [] := insG_ne gl (zM x)
   simp only [outV_map _ hne2, outO_map _ hne2] at hc'
   have hlen : gl.length < 1000000 := by omega
   have e := ref266 T hN hP gl hg.1.1 hg.1.2 (zM x) rfl x.dv false hlen
   have ec : (zM x).Currency = x.Currency := rfl
   rw [ec] at e
   have hae : ∀ p (h : p < gl.length), gl[p].Account = 0 := fun p h => hg.1.2 _ (List.getElem_mem _)
   cases hf : fnd gl (zM x) with
   | true =>
    rw [hf] at e
    have hp : plc gl (zM x) < gl.length := by
     unfold fnd at hf
     split at hf
     ·rename_i h; exact (List.getElem?_eq_some_iff.1 h).1
     ·cases hf
    have hl : ltL (zM x) gl[plc gl (zM x)] = false := by
     rw [fnd, List.getElem?_eq_getElem hp] at hf
     simpa using hf
    have hins : insS gl x = gl.set (plc gl (zM x)) (addL gl[plc gl (zM x)] (zM x)) := insG_old gl (zM x) hp hl
    rw [hins] at hc' ⊢
    generalize plc gl (zM x) = p at *
    have g3 : (p : Int) < gl.length := by omega
    simp [L186_0, h1, hi, h3, hx, e, hp, g3, mcells, putAt, size_n, List.drop_succ_cons, List.take_succ_cons, List.take_zero, List.cons_append, List.nil_append, mkD2, dcells_i, ↓kC_regD, ↓kDq_nil, ↓kDq_O, ↓kDq_E, ↓aftD_go, nfp_go, ↓d_mov, ↓d_load, ↓d_store, ↓d_bin, ↓d_faddr, ↓d_iaddr, accD, writeS, touchS, footD, storeD, chg, roOf, runs, pairsD, disj, PV.refs, IOp.okD, Nat.testBit, ↓bo_iaR, -st_p, ↓st_pm, ↓stM_box, ↓stM_sl, ↓subD0]
    have hm : DV.a [.s gl[p].Currency, .i .i64 (IntKind.i64.wrap (gl[p].Amount + x.Amount))] = mdv (addL gl[p] (zM x)) := rfl
    rw [hm, show (gl.map mdv).set p (mdv (addL gl[p] (zM x))) = (gl.set p (addL gl[p] (zM x))).map mdv from List.map_set.symm]
    exact hc' _ _ (by simp [gc, Fr.keep, reach, frRefs, heapRefs, PV.refs, place, gcH, orefs, Obj.refs, PV.ren, Obj.ren, Heap.obj, Fr.ren, gh, List.idxOf?_cons])
   | false =>
    rw [hf] at e
    have hl : ∀ h : plc gl (zM x) < gl.length, ltL (zM x) gl[plc gl (zM x)] = true := fun h => by
     rw [fnd, List.getElem?_eq_getElem h] at hf
     simpa using hf
    have hpl := plc_le gl (zM x)
    have hins : insS gl x = gl.take (plc gl (zM x)) ++ zM x :: gl.drop (plc gl (zM x)) := insG_new gl (zM x) hl
    rw [hins] at hc' ⊢
    generalize plc gl (zM x) = p at *
    have g3 : (p : Int) ≤ gl.length := by omega
    have g4 : (gl.length + 1) * 24 ≤ 140737488355328 := by omega
    have g5 : (gl.map mdv).take gl.length = gl.map mdv := List.take_of_length_le (by simp)
    have g6 : Nat.beq 0 2 = false := rfl
    have g7 : (p : Int) < gl.length + 1 := by omega
    have g8 : min p gl.length = p := by omega
    have g9 : gl.length + 1 ≤ p + (gl.length - p + 1) := by omega
    have gt : (List.take p (gl.map mdv)).length = p := by simp; omega
    have g10 : ∀ A, (List.take p (gl.map mdv) ++ A :: List.drop p (gl.map mdv))[p]? = some A := fun A => by
     rw [List.getElem?_append_right (by omega), gt, Nat.sub_self]; rfl
    have g11 : ∀ A B, (List.take p (gl.map mdv) ++ A :: List.drop p (gl.map mdv)).set p B = List.take p (gl.map mdv) ++ B :: List.drop p (gl.map mdv) := fun A B => by
     rw [List.set_append_right _ _ (by omega), gt, Nat.sub_self]; rfl
    simp [L186_0, h1, hi, h3, hw', hx, e, hI, insX, elemsA, g3, g4, g5, g6, g7, g8, g9, g11, b_agg, agg_n, agg_c, cells_s, putAt, mkA, plains, size_n, List.drop_succ_cons, List.drop_zero, List.take_succ_cons, List.take_zero, List.cons_append, List.nil_append, dcl_a, mkD2, dcells_i, ↓kC_regD, ↓kDq_nil, ↓kDq_O, ↓kDq_E, ↓aftD_go, nfp_go, ↓d_mov, ↓d_load, ↓d_store, ↓d_bin, ↓d_faddr, ↓d_iaddr, accD, writeS, touchS, footD, storeD, chg, roOf, runs, pairsD, disj, PV.refs, IOp.okD, Nat.testBit, ↓bo_iaR, -st_p, ↓st_pm, ↓stM_box, ↓stM_sl, ↓subD0]
    have hm : DV.a [.s x.Currency, .i .i64 x.Amount] = mdv (zM x) := rfl
    rw [hm]
    refine hc' _ _ ?_
    simp [gc, Fr.keep, reach, frRefs, heapRefs, PV.refs, place, gcH, orefs, Obj.refs, PV.ren, Obj.ren, Heap.obj, Fr.ren, gh, List.idxOf?_cons]
    omega
theorem val186 (T : Tab) (hN : HN T) (hP : HP T) (hI : HI2 T) (l : List ALeg) (t : Bool) (hn : l.length < 1000000) (ho : ∀ x ∈ l, w64 x.Amount = x.Amount) : T.val 186 [.l (K1 3) (l.map ALeg.dv) t] = some (.d (.l (K1 2) ((l.foldl insS []).map mdv) false), true) := by
 rw [val_k T (hP 186 F186 rfl) rfl]
 have lp := fun k fr H => @lp186 T hN hP hI l t hn ho k fr H
 simp [F186, Fr.ofArgs]
 refine (lp _ _ _ (by simp [gc, Fr.keep, reach, frRefs, heapRefs, PV.refs, gcH, PV.ren, Obj.ren, Heap.obj, Fr.ren, gh])).trans ?_
 cases l.foldl insS [] with
 | nil => simp [outV, outO]
 | cons x g =>
  have ht : (g.map mdv).take g.length = g.map mdv := List.take_of_length_le (by simp)
  simp [outV, outO, ht]
end Go.Sim
end
section
namespace Go.Sim
set_option maxRecDepth 10000
set_option maxHeartbeats 4000000
def notZ (x : ALeg) : Bool := x.Amount != 0
structure DelI (l : List ALeg) (j i : Nat) (e : List ALeg) : Prop where
 len : e.length = l.length
 ij : i ≤ j
 jn : j ≤ l.length
 pre : e.take i = (l.take j).filter notZ
 suf : e.drop j = l.drop j
theorem DelI.getJ {l : List ALeg} {j i : Nat} {e : List ALeg} (h : DelI l j i e) (hj : j < l.length) : e[j]? = some l[j] := by
 have := congrArg (fun x => x[0]?) h.suf
 simp only [List.getElem?_drop, Nat.add_zero] at this
 rw [this, List.getElem?_eq_getElem hj]
theorem DelI.skip {l : List ALeg} {j i : Nat} {e : List ALeg} (h : DelI l j i e) (hj : j < l.length) (hz : notZ l[j] = false) : DelI l (j + 1) i e where
 len := h.len
 ij := by have := h.ij; omega
 jn := hj
 pre := by rw [List.take_succ_eq_append_getElem hj, List.filter_append, h.pre]; simp [hz]
 suf := by rw [← List.drop_drop, h.suf, List.drop_drop]
theorem DelI.keep {l : List ALeg} {j i : Nat} {e : List ALeg} (h : DelI l j i e) (hj : j < l.length) (hz : notZ l[j] = true) : DelI l (j + 1) (i + 1) (e.set i l[j]) where
 len := by simp [h.len]
 ij := by have := h.ij; omega
 jn := hj
 pre := by
  have h1 := h.ij
  have h2 := h.len
  rw [List.take_succ_eq_append_getElem hj, List.filter_append, ← h.pre]
  rw [List.take_succ_eq_append_getElem (by simp; omega)]
  simp [hz, List.take_set_of_le]
 suf := by
  have h1 := h.ij
  rw [List.drop_set_of_lt (by omega), ← List.drop_drop, h.suf, List.drop_drop]
theorem lp180 (T : Tab) (hN : HN T) (l : List ALeg) (hn : l.length < 1000000) {k : KC (PV × Heap)} {r : Option (PV × Heap)} {fr : Fr} {H : Heap} (j0 i0 : Nat) (e0 : List ALeg) (hI : DelI l j0 i0 e0)
  (hr : ∀ (i : Nat) (e : List ALeg), DelI l l.length i e → k (.exit 0) [(19, .d (.b false)), (6, .d (I l.length)), (5, .d (I i)), (1, .f 181 []), (0, .r 0 (K1 3) 0 l.length false)] [some (.sl (K1 3) 0 (e.map ALeg.dv))] = r)
  (h0 : gc [0, 1, 5, 6] 1 ⟨fr, H⟩ = ⟨[(6, .d (I j0)), (5, .d (I i0)), (1, .f 181 []), (0, .r 0 (K1 3) 0 l.length false)], [some (.sl (K1 3) 0 (e0.map ALeg.dv))]⟩) :
  kC T.env 1 fr H (.h (.loop [0, 1, 5, 6] L180_0, k)) = r := by
 refine loop_meas (fun s : Nat × Nat × List ALeg => ⟨[(6, .d (I s.1)), (5, .d (I s.2.1)), (1, .f 181 []), (0, .r 0 (K1 3) 0 l.length false)], [some (.sl (K1 3) 0 (s.2.2.map ALeg.dv))]⟩) (fun s => DelI l s.1 s.2.1 s.2.2) (fun s => l.length - s.1) ?_ (j0, i0, e0) hI h0
 rintro B - ⟨j, i, e⟩ hI hx
 simp only at hI hx ⊢
 have hx' := fun (s' : Nat × Nat × List ALeg) => hx s'
 clear hx
 have hel := hI.len
 have hij := hI.ij
 by_cases hj : j < l.length
 ·have g1 : (j : Int) < l.length := by omega
  have hgj := hI.getJ hj
  have g2 : (i : Int) < l.length := by omega
  have g3 : i < l.length := by omega
  have w1 : IntKind.i64.wrap ((j : Int) + 1) = (j : Int) + 1 := wrI (by omega) (by omega)
  have w2 : IntKind.i64.wrap ((i : Int) + 1) = (i : Int) + 1 := wrI (by omega) (by omega)
  have he := val181 T hN l[j]
  have hk := hI.keep hj
  have hs := hI.skip hj
  have hq : (l[j].Amount == 0) = !notZ l[j] := by simp [notZ, bne]
  rw [hq] at he
  have hje : j < e.length := by omega
  have hx : l[j] = e[j] := by rw [List.getElem?_eq_getElem hje] at hgj; exact (Option.some.inj hgj).symm
  simp only [hx] at he hk hs
  clear hgj hx hq
  have g4 : i < e.length := by omega
  simp [L180_0, hj, g1, he, hel, ↓bo_iaR, ↓subDw, plains, -st_p, ↓st_pm, ↓stM_box]
  refine brn_split (fun h => ?_) (fun h => ?_)
  ·simp [w1, w2, g2, g3, hel, ↓bo_iaR, -st_p, ↓st_pm, ↓stM_sl]
   refine hx' (j + 1, i + 1, e.set i e[j]) (hk h) (by simp only; omega) _ _ ?_
   rw [show ∀ v : ALeg, (e.map ALeg.dv).set i v.dv = (e.set i v).map ALeg.dv from fun v => List.map_set.symm]
   simp [gc, Fr.keep, reach, frRefs, heapRefs, PV.refs, PV.refsL, place, gcH, orefs, Obj.refs, PV.ren, PV.renL, Obj.ren, Heap.obj, Fr.ren, gh]
  ·simp [w1]
   exact hx' (j + 1, i, e) (hs h) (by simp only; omega) _ _ (by simp [gc, Fr.keep, reach, frRefs, heapRefs, PV.refs, PV.refsL, place, gcH, orefs, Obj.refs, PV.ren, PV.renL, Obj.ren, Heap.obj, Fr.ren, gh])
 ·have hj' : j = l.length := by have := hI.jn; omega
  subst hj'
  simp [L180_0, hel, hr i e hI]
theorem DelI.start {l : List ALeg} {p : Nat} (h : l.findIdx? isZ = some p) : DelI l (p + 1) p l := by
 obtain ⟨hp, h1, h2⟩ := List.findIdx?_eq_some_iff_getElem.1 h
 refine ⟨rfl, by omega, hp, ?_, rfl⟩
 have hz : notZ l[p] = false := by simpa [notZ, isZ] using h1
 rw [List.take_succ_eq_append_getElem hp, List.filter_append]
 simp only [List.filter_cons, hz, Bool.false_eq_true, if_false, List.filter_nil, List.append_nil]
 symm
 rw [List.filter_eq_self]
 intro x hx
 obtain ⟨i, hi, rfl⟩ := List.getElem_of_mem hx
 rw [List.getElem_take]
 have := h2 i (by rw [List.length_take] at hi; omega)
 simpa [notZ, isZ] using this
theorem ref180 (T : Tab) (hN : HN T) (l : List ALeg) (hn : l.length < 1000000) : ∃ es : List DV, es.take (l.filter notZ).length = (l.filter notZ).map ALeg.dv ∧ (l.filter notZ).length ≤ es.length ∧ T.ref 180 [.r 0 (K1 3) 0 l.length false, .f 181 []] [some (.sl (K1 3) 0 (l.map ALeg.dv))] = some (.r 0 (K1 3) 0 (l.filter notZ).length false, [some (.sl (K1 3) 0 es)]) := by
 have hm := mxl
 have e1 := ref265_0 T hN l (by omega)
 have hH : ∀ es : List DV, Cl [some (.sl (K1 3) 0 es)] := fun es r h => by simp [heapRefs, orefs, Obj.refs] at h
 have hgc : ∀ (es : List DV) off len J, gcV 1 (.r 0 (K1 3) off len false) (some (.sl (K1 3) 0 es) :: J) = (.r 0 (K1 3) off len false, [some (.sl (K1 3) 0 es)]) := fun es off len J => gcV_low (hH es) (by simp [PV.refs])
 rw [ref_k T (hN 180 F180 rfl) rfl]
 unfold idxI at e1
 cases hf : l.findIdx? isZ with
 | none =>
  rw [hf] at e1
  have hall : l.filter notZ = l := by
   rw [List.filter_eq_self]
   intro x hx
   have := List.findIdx?_eq_none_iff.1 hf x hx
   simpa [notZ, isZ] using this
  refine ⟨l.map ALeg.dv, by rw [hall]; exact List.take_of_length_le (by simp), by rw [hall]; simp, ?_⟩
  rw [hall]
  simp [F180, Fr.ofArgs, e1, finR_ret, hgc]
 | some p =>
  rw [hf] at e1
  have hp : p < l.length := (List.findIdx?_eq_some_iff_findIdx_eq.1 hf).1
  have w1 : IntKind.i64.wrap ((p : Int) + 1) = (p : Int) + 1 := wrI (by omega) (by omega)
  have g0 : ((p : Int) == -1) = false := by simp
  have hml : (l.filter notZ).length ≤ l.length := List.length_filter_le _ _
  refine ⟨(l.filter notZ).map ALeg.dv ++ List.replicate (l.length - (l.filter notZ).length) (.a [I 0, I 0, .s []]), by rw [List.take_append_of_le_length (by simp)]; exact List.take_of_length_le (by simp), by simp, ?_⟩
  simp [F180, Fr.ofArgs, e1, g0, w1]
  refine lp180 T hN l hn (p + 1) p l (DelI.start hf) (fun i e hI => ?_) (by simp [gc, Fr.keep, reach, frRefs, heapRefs, PV.refs, PV.refsL, place, gcH, orefs, Obj.refs, PV.ren, PV.renL, Obj.ren, Heap.obj, Fr.ren, gh])
  have hel := hI.len
  have hi : i = (l.filter notZ).length := by
   have := congrArg List.length hI.pre
   rw [List.take_of_length_le (Nat.le_refl l.length), List.length_take] at this
   have := hI.ij
   omega
  have hpre := hI.pre
  rw [List.take_of_length_le (Nat.le_refl l.length)] at hpre
  have g1 : (i : Int) ≤ l.length := by omega
  have g2 : i ≤ l.length := by omega
  have g3 : i + (l.length - i) = l.length := by omega
  have g4 : (putAt (e.map ALeg.dv) i (List.replicate (l.length - i) (.a [I 0, I 0, .s []]))).length = l.length := by simp [putAt]; omega
  have hput : putAt (e.map ALeg.dv) i (List.replicate (l.length - i) (.a [I 0, I 0, .s []])) = (l.filter notZ).map ALeg.dv ++ List.replicate (l.length - (l.filter notZ).length) (.a [I 0, I 0, .s []]) := by
   rw [putAt, ← List.map_take, hpre, List.length_replicate, List.drop_of_length_le (by simp; omega), List.append_nil, hi]
  rw [← hput, ← hi]
  simp [↓bo_slR, ↓b_clr, ↓clrK_r, g1, g3, g4, hel, finR_ret, hgc]
theorem val110 (T : Tab) (hN : HN T) (hI : HI T) (l : List ALeg) (t : Bool) (hn : l.length < 1000000) : T.val 110 [.l (K1 3) (l.map ALeg.dv) t] = some (.d (.l (K1 3) ((netL l).map ALeg.dv) false), true) := by
 rw [val_k T (hN 110 F110 rfl) rfl]
 have e1 := val179 T hN hI l t hn
 have hl := foldG_len l []
 have hd : netL l = (l.foldl insG []).filter notZ := rfl
 rw [hd]
 generalize l.foldl insG [] = g at *
 obtain ⟨es, h1, h2, e2⟩ := ref180 T hN g (by simp at hl; omega)
 simp [F110, Fr.ofArgs, e1, ↓b_call1, ↓ownL_l, e2, h1, h2]
theorem val1020 (T : Tab) (hN : HN T) (a b : ALeg) : T.val 1020 [a.dv, b.dv] = some (.d (.b (ltL a b)), false) := by
 rw [val_k T (hN 1020 F1020 rfl) rfl]
 unfold ltL
 simp [F1020, Fr.ofArgs]
 repeat' (refine brn_split (fun h => ?_) (fun h => ?_) <;> (try simp at h) <;> (try simp [h, ↓bo_lssS]))
 all_goals first | (simp_all; done) | (simp_all; omega)
end Go.Sim
end
section
namespace Go.Sim
set_option maxRecDepth 10000
set_option maxHeartbeats 4000000
section
variable {R : Type} {H : Heap} {id : Nat} {q : PV → Heap → Option R} {k : K} {b : Nat}
theorem appE_rf {o off len : Nat} {k' : K} {ys : List DV} : bo2 (appE H id k b (.r o k' off len false) ys) (.h q) = match H.obj o with
  | some (.sl k'' ro es) => chk ((K.eq k k' && K.eq k k'' && decide (off + len ≤ es.length) && decide ((len + ys.length) * b ≤ 2 ^ 47)) = true) (.h (chk (ro ≤ off + len) (.h (q (.r id k 0 (len + ys.length) false) ((H.put o none).put id (some (.sl k (ro - off) ((es.drop off).take len ++ ys))))))))
  | _ => none := by
 simp only [appE, appA, elemsA, K_refl, Bool.true_or, if_true, Bool.false_eq_true, if_false]
 cases H.obj o with
 | none => rfl
 | some w =>
  cases w with
  | sl k'' ro es =>
   simp only [chk]
   by_cases h : (K.eq k k' && K.eq k k'' && decide (off + len ≤ es.length) && decide ((len + ys.length) * b ≤ 2 ^ 47)) = true
   ·simp only [h, if_true]
    by_cases g : ro ≤ off + len
    ·simp only [g, if_true]; rfl
    ·simp only [g, if_false]; rfl
   ·simp only [h, if_false, Bool.false_eq_true]; rfl
  | _ => rfl
end
theorem lst1 {α : Type} (m : List α) (x : α) (p n : Nat) (hp : p ≤ n) (hn : m.length = n) : (((m.take p).take p ++ [x]).take (p + 1)) ++ (m.drop p).take (n - p) = m.take p ++ x :: m.drop p := by
 subst hn
 have a : (m.take p ++ [x]).take (p + 1) = m.take p ++ [x] := List.take_of_length_le (by simp; omega)
 have b : (m.drop p).take (m.length - p) = m.drop p := List.take_of_length_le (by simp)
 rw [List.take_take, Nat.min_self, a, b]
 simp
theorem lst2 {α : Type} (m : List α) (x : α) (p n : Nat) (hp : p < n) (hn : m.length = n) : (((m.take p).take p ++ [x]).take (p + 1)) ++ (m.drop (p + 1)).take (n - (p + 1)) = m.set p x := by
 subst hn
 have a : (m.take p ++ [x]).take (p + 1) = m.take p ++ [x] := List.take_of_length_le (by simp; omega)
 have b : (m.drop (p + 1)).take (m.length - (p + 1)) = m.drop (p + 1) := List.take_of_length_le (by simp)
 rw [List.take_take, Nat.min_self, a, b, List.set_eq_take_append_cons_drop, if_pos hp]
 simp
theorem lp1018_0 (T : Tab) (hN : HN T) (l g : List ALeg) (t : Bool) (i : Nat) (hi : i < l.length) (_hn : l.length < 1000000) (hg : g.length < 1000000) {k : KC (PV × Bool)} {r : Option (PV × Bool)} {fr : Fr} {H : Heap}
  (he : ∀ b, k (.exit 2) [(30, .d (.b b)), (6, .d (I (plc g l[i]))), (5, .d (.l (K1 3) [] true)), (4, .d (I i)), (3, .r 0 (K1 3) 0 g.length false), (0, .d (.l (K1 3) (l.map ALeg.dv) t))] [some (.sl (K1 3) 0 (g.map ALeg.dv))] = r)
  (h0 : gc [0, 3, 4, 5, 6] 0 ⟨fr, H⟩ = ⟨[(6, .d (I 0)), (5, .d (.l (K1 3) [] true)), (4, .d (I i)), (3, .r 0 (K1 3) 0 g.length false), (0, .d (.l (K1 3) (l.map ALeg.dv) t))], [some (.sl (K1 3) 0 (g.map ALeg.dv))]⟩) :
  kC T.env 0 fr H (.h (.loop [0, 3, 4, 5, 6] L1018_0, k)) = r := by
 have h1 : (i : Int) < l.length := by omega
 refine loop_iter (fun j : Nat => ⟨[(6, .d (I j)), (5, .d (.l (K1 3) [] true)), (4, .d (I i)), (3, .r 0 (K1 3) 0 g.length false), (0, .d (.l (K1 3) (l.map ALeg.dv) t))], [some (.sl (K1 3) 0 (g.map ALeg.dv))]⟩) (fun j => j) (plc g l[i]) ?_ ?_ (by rw [h0]; rfl)
 ·intro B _
  by_cases hp : plc g l[i] < g.length
  ·have hat := plc_at g l[i] hp
   have e := val1020 T hN g[plc g l[i]] l[i]
   rw [hat] at e
   generalize plc g l[i] = p at *
   have g1 : (p : Int) < g.length := by omega
   simp [L1018_0, ↓kC_regD, ↓kDq_nil, ↓kDq_O, ↓kDq_OG, ↓aftD_go, nfp_go, ↓d_mov, ↓d_pick, ↓d_load, ↓d_bin, ↓d_iaddr, ↓d_len, ↓d_call0, accD, writeS, touchS, footD, storeD, chg, roOf, runs, pairsD, disj, PV.refs, IOp.okD, Nat.testBit, hp, g1, hi, h1, e, ↓bo_iaR, ↓subDw, he]
  ·have hp' : ¬ ((plc g l[i] : Int) < g.length) := by omega
   simp [L1018_0, ↓kC_regD, ↓kDq_nil, ↓kDq_O, ↓kDq_OG, ↓aftD_go, nfp_go, ↓d_mov, ↓d_pick, ↓d_load, ↓d_bin, ↓d_iaddr, ↓d_len, ↓d_call0, accD, writeS, touchS, footD, storeD, chg, roOf, runs, pairsD, disj, PV.refs, PV.refsL, IOp.okD, Nat.testBit, hp', he]
 ·intro B _ j hj c hc
  have hjg : j < g.length := Nat.lt_of_lt_of_le hj (plc_le _ _)
  have hlt := plc_lt g l[i] j hjg hj
  have e := val1020 T hN g[j] l[i]
  rw [hlt] at e
  have g1 : (j : Int) < g.length := by omega
  have w : IntKind.i64.wrap ((j : Int) + 1) = (j : Int) + 1 := wrI (by omega) (by omega)
  simp [L1018_0, ↓kC_regD, ↓kDq_nil, ↓kDq_O, ↓kDq_OG, ↓aftD_go, nfp_go, ↓d_mov, ↓d_pick, ↓d_load, ↓d_bin, ↓d_iaddr, ↓d_len, ↓d_call0, accD, writeS, touchS, footD, storeD, chg, roOf, runs, pairsD, disj, PV.refs, IOp.okD, Nat.testBit, hjg, g1, hi, h1, e, w, ↓bo_iaR, ↓subDw]
  exact hc _ _ (by simp [gc, Fr.keep, reach, frRefs, heapRefs, PV.refs, place, gcH, orefs, Obj.refs, PV.ren, Obj.ren, Heap.obj, Fr.ren, gh, List.idxOf?_cons])
theorem lp1018_1 (T : Tab) (hN : HN T) (l : List ALeg) (t : Bool) (hn : l.length < 1000000) {k : KC (PV × Bool)} {fr : Fr} {H : Heap}
  (h0 : gc [0, 3, 4] 0 ⟨fr, H⟩ = ⟨[(4, .d (I 0)), (3, .d (.l (K1 3) [] true)), (0, .d (.l (K1 3) (l.map ALeg.dv) t))], []⟩) :
  kC T.env 0 fr H (.h (.loop [0, 3, 4] L1018_1, k)) = k (.exit 0) [(13, .d (.b false)), (4, .d (I l.length)), (3, outV (K1 3) ((l.foldl insG []).map ALeg.dv)), (0, .d (.l (K1 3) (l.map ALeg.dv) t))] (outO (K1 3) ((l.foldl insG []).map ALeg.dv)) := by
 rw [loop_rounds l (fun i (g : List ALeg) => ⟨[(4, .d (I i)), (3, outV (K1 3) (g.map ALeg.dv)), (0, .d (.l (K1 3) (l.map ALeg.dv) t))], outO (K1 3) (g.map ALeg.dv)⟩) (fun i g => Srt g ∧ g.length ≤ i) (fun _ g x c => c (insG g x)) (fun g => k (.exit 0) [(13, .d (.b false)), (4, .d (I l.length)), (3, outV (K1 3) (g.map ALeg.dv)), (0, .d (.l (K1 3) (l.map ALeg.dv) t))] (outO (K1 3) (g.map ALeg.dv))) ?_ ?_ (b0 := []) h0 ⟨List.Pairwise.nil, Nat.le_refl _⟩]
 ·rw [rounds_fold (fun _ g x => insG g x) _ _ (fun _ _ _ _ => rfl)]
  have : ∀ (l : List ALeg) (i : Nat) (g : List ALeg), foldN (fun _ g x => insG g x) i g l = l.foldl insG g := by
   intro l
   induction l with
   | nil => intro _ _; rfl
   | cons x l ih => intro i g; rw [foldN, ih, List.foldl_cons]
  rw [this]
 ·intro B _ g _
  cases g with
  | nil => simp [L1018_1, outV, outO]
  | cons y g => simp [L1018_1, outV, outO]
 ·intro B _ i g hi hg c hc
  have h1 : (i : Int) < l.length := by omega
  have h3 := wr1 (i := i) (by omega)
  have hg' : Srt (insG g l[i]) ∧ (insG g l[i]).length ≤ i + 1 := ⟨srt_insG _ hg.1, Nat.le_trans (insG_len _ _) (by omega)⟩
  have hc' := fun fr H => hc (insG g l[i]) fr H hg'
  clear hc
  cases g with
  | nil =>
   simp [L1018_1, outV, outO, h1]
   rw [kC_loop]
   simp [gc, Fr.keep, reach, frRefs, heapRefs, PV.refs, gcH, PV.ren, Obj.ren, Heap.obj, Fr.ren, gh]
   simp [L1018_0, ↓kC_regD, ↓kDq_nil, ↓kDq_O, ↓kDq_OG, ↓aftD_go, nfp_go, ↓d_mov, ↓d_pick, ↓d_load, ↓d_bin, ↓d_un, ↓d_iaddr, ↓d_len, ↓d_call0, accD, writeS, touchS, footD, storeD, chg, roOf, runs, pairsD, disj, PV.refs, PV.refsL, IOp.okD, Nat.testBit, h1, hi, h3, ↓bo_slL, ↓appE_rf]
   exact hc' _ _ (by simp [gc, Fr.keep, reach, frRefs, heapRefs, PV.refs, place, gcH, orefs, Obj.refs, PV.ren, Obj.ren, Heap.obj, Fr.ren, gh, List.idxOf?_cons, outV, outO, insG])
  | cons y g =>
   obtain ⟨gl, hgl⟩ : ∃ gl, y :: g = gl := ⟨_, rfl⟩
   have hov : outV (K1 3) (List.map ALeg.dv (y :: g)) = .r 0 (K1 3) 0 gl.length false := by subst hgl; simp [outV]
   have hoo : outO (K1 3) (List.map ALeg.dv (y :: g)) = [some (.sl (K1 3) 0 (gl.map ALeg.dv))] := by subst hgl; simp [outO]
   have hov' : ∀ m, m ≠ [] → outV (K1 3) (List.map ALeg.dv m) = .r 0 (K1 3) 0 m.length false := fun m hm => by
    cases m with
    | nil => exact absurd rfl hm
    | cons a b => simp [outV]
   have hoo' : ∀ m, m ≠ [] → outO (K1 3) (List.map ALeg.dv m) = [some (.sl (K1 3) 0 (m.map ALeg.dv))] := fun m hm => by
    cases m with
    | nil => exact absurd rfl hm
    | cons a b => simp [outO]
   simp only [hov, hoo]
   simp only [hgl] at hg hg' hc' ⊢
   rw [hov' _ (insG_ne gl _), hoo' _ (insG_ne gl _)] at hc'
   clear hov hoo hov' hoo' hgl
   have hlen : gl.length < 1000000 := by omega
   have lp := fun k r he fr H => @lp1018_0 T hN l gl t i hi hn hlen k r fr H he
   have hpl := plc_le gl l[i]
   simp [L1018_1, h1]
   refine lp _ _ (fun b => ?_) _ _ (by simp [gc, Fr.keep, reach, frRefs, heapRefs, PV.refs, place, gcH, orefs, Obj.refs, PV.ren, Obj.ren, Heap.obj, Fr.ren, gh, List.idxOf?_cons])
   obtain ⟨x, hx⟩ : ∃ x, l[i] = x := ⟨_, rfl⟩
   simp only [hx] at hc' hpl hg' ⊢
   have ht : (gl.map ALeg.dv).take gl.length = gl.map ALeg.dv := List.take_of_length_le (by simp)
   by_cases hp : plc gl x < gl.length
   ·have e := val1020 T hN x gl[plc gl x]
    have hat := plc_at gl x hp
    by_cases hl : ltL x gl[plc gl x] = true
    ·rw [insG_new gl x (fun _ => hl)] at hc' ⊢
     rw [hl] at e
     generalize plc gl x = p at *
     have g1 : (p : Int) < gl.length := by omega
     have g2 : (p : Int) ≤ gl.length := by omega
     have g4 : p * 32 ≤ 140737488355328 := by omega
     have g5 : (p + 1) * 32 ≤ 140737488355328 := by omega
     have g6 : (p + 1 + (gl.length - p)) * 32 ≤ 140737488355328 := by omega
     have g7 : p + (gl.length - p) = gl.length := by omega
     have g8 : min p gl.length = p := by omega
     have g9 : ((gl.map ALeg.dv).take p).length = p := by simp; omega
     simp [↓kC_regD, ↓kDq_nil, ↓kDq_O, ↓kDq_OG, ↓aftD_go, nfp_go, ↓d_mov, ↓d_pick, ↓d_load, ↓d_bin, ↓d_un, ↓d_iaddr, ↓d_len, ↓d_call0, accD, writeS, touchS, footD, storeD, chg, roOf, runs, pairsD, disj, PV.refs, IOp.okD, Nat.testBit, hx, hi, h1, h3, hp, hpl, g1, g2, g4, g5, g6, g7, g9, e, ↓bo_iaR, ↓subDw, ↓bo_slR, ↓appE_rf]
     refine hc' _ _ ?_
     rw [lst1 (gl.map ALeg.dv) x.dv p gl.length (by omega) (by simp)]
     simp [gc, Fr.keep, reach, frRefs, heapRefs, PV.refs, place, gcH, orefs, Obj.refs, PV.ren, Obj.ren, Heap.obj, Fr.ren, gh, List.idxOf?_cons]
     omega
    ·have hl' : ltL x gl[plc gl x] = false := by simpa using hl
     have hk := ltL_tri hl' hat
     rw [insG_old gl x hp hl'] at hc' ⊢
     rw [hl'] at e
     generalize plc gl x = p at *
     have g1 : (p : Int) < gl.length := by omega
     have g2 : (p : Int) ≤ gl.length := by omega
     have g4 : p * 32 ≤ 140737488355328 := by omega
     have g5 : (p + 1) * 32 ≤ 140737488355328 := by omega
     have g6 : (p + 1 + (gl.length - (p + 1))) * 32 ≤ 140737488355328 := by omega
     have g7 : p + (gl.length - p) = gl.length := by omega
     have g7' : p + 1 + (gl.length - (p + 1)) = gl.length := by omega
     have g8 : min p gl.length = p := by omega
     have g9 : ((gl.map ALeg.dv).take p).length = p := by simp; omega
     have g10 : (p : Int) + 1 ≤ gl.length := by omega
     have g11 : (0 : Int) ≤ (p : Int) + 1 := by omega
     have g12 : ((p : Int) + 1).toNat = p + 1 := by omega
     have g13 : gl.length * 32 ≤ 140737488355328 := by omega
     have w : IntKind.i64.wrap ((p : Int) + 1) = (p : Int) + 1 := wrI (by omega) (by omega)
     have hc3 : (PV.d x.dv).cells.length = 3 := rfl
     have hm : ∀ n, mkP (some 3) (putAt (PV.d x.dv).cells 1 [.d (.i .i64 n)]) = some (.d (ALeg.dv ⟨x.Account, n, x.Currency⟩)) := fun _ => rfl
     simp [↓kC_regD, ↓kDq_nil, ↓kDq_O, ↓kDq_E, ↓kDq_OG, ↓aftD_go, nfp_go, ↓d_mov, ↓d_pick, ↓d_load, ↓d_store, ↓d_bin, ↓d_un, ↓d_faddr, ↓d_iaddr, ↓d_len, ↓d_call0, accD, writeS, touchS, footD, storeD, chg, roOf, runs, pairsD, disj, PV.refs, IOp.okD, Nat.testBit, hx, hi, h1, h3, hp, hpl, g1, g2, g4, g5, g7', g9, g10, g11, g13, w, hm, hc3, e, ↓bo_iaR, ↓subDw, ↓subD0, ↓bo_slR, ↓appE_rf, cells_i, size_n]
     refine hc' _ _ ?_
     have hx' : (⟨x.Account, IntKind.i64.wrap (x.Amount + gl[p].Amount), x.Currency⟩ : ALeg) = addL gl[p] x := by
      rw [addL, hk.1, hk.2, w64, Int.add_comm]
     rw [hx', lst2 (gl.map ALeg.dv) (addL gl[p] x).dv p gl.length (by omega) (by simp)]
     rw [show ∀ v : ALeg, (gl.map ALeg.dv).set p v.dv = (gl.set p v).map ALeg.dv from fun v => List.map_set.symm]
     simp [gc, Fr.keep, reach, frRefs, heapRefs, PV.refs, place, gcH, orefs, Obj.refs, PV.ren, Obj.ren, Heap.obj, Fr.ren, gh, List.idxOf?_cons]
   ·rw [insG_new gl x (fun h => absurd h hp)] at hc' ⊢
    have hpe : plc gl x = gl.length := by omega
    rw [hpe] at hc' ⊢
    clear hp hpe hpl
    generalize hz : gl.length = n at *
    have g4 : n * 32 ≤ 140737488355328 := by omega
    have g5 : (n + 1) * 32 ≤ 140737488355328 := by omega
    have g9 : ((gl.map ALeg.dv).take n).length = n := by simp; omega
    simp [↓kC_regD, ↓kDq_nil, ↓kDq_O, ↓kDq_OG, ↓aftD_go, nfp_go, ↓d_mov, ↓d_pick, ↓d_load, ↓d_bin, ↓d_un, ↓d_iaddr, ↓d_len, ↓d_call0, accD, writeS, touchS, footD, storeD, chg, roOf, runs, pairsD, disj, PV.refs, PV.refsL, IOp.okD, Nat.testBit, hx, hi, h1, h3, hz, g4, g5, ht, ↓bo_slR, ↓appE_rf]
    refine hc' _ _ ?_
    rw [List.take_of_length_le (by simp; omega)]
    have a1 : gl.take n = gl := List.take_of_length_le (by omega)
    have a2 : gl.drop n = [] := List.drop_of_length_le (by omega)
    rw [a1, a2]
    simp [gc, Fr.keep, reach, frRefs, heapRefs, PV.refs, place, gcH, orefs, Obj.refs, PV.ren, Obj.ren, Heap.obj, Fr.ren, gh, List.idxOf?_cons, hz]
def st2 (g : List ALeg) (i : Int) : List ALeg → St
 | [] => ⟨[(9, .d (I i)), (8, .d (.l (K1 3) [] true)), (3, .r 0 (K1 3) 0 g.length false)], [some (.sl (K1 3) 0 (g.map ALeg.dv))]⟩
 | y :: o => ⟨[(9, .d (I i)), (8, .r 0 (K1 3) 0 (y :: o).length false), (3, .r 1 (K1 3) 0 g.length false)], [some (.sl (K1 3) 0 ((y :: o).map ALeg.dv)), some (.sl (K1 3) 0 (g.map ALeg.dv))]⟩
theorem lp1018_2 (T : Tab) (g : List ALeg) (hn : g.length < 1000000) {k : KC (PV × Bool)} {fr : Fr} {H : Heap} (h0 : gc [3, 8, 9] 0 ⟨fr, H⟩ = st2 g 0 []) :
  kC T.env 0 fr H (.h (.loop [3, 8, 9] L1018_2, k)) = k (.exit 4) ((79, .d (.b false)) :: (st2 g g.length (g.filter notZ)).fr) (st2 g g.length (g.filter notZ)).H := by
 rw [loop_rounds g (fun i (o : List ALeg) => st2 g i o) (fun i o => o.length ≤ i) (fun _ o x c => c (if notZ x = true then o ++ [x] else o)) (fun o => if o.length ≤ g.length then k (.exit 4) ((79, .d (.b false)) :: (st2 g g.length o).fr) (st2 g g.length o).H else none) ?_ ?_ (b0 := []) h0 (Nat.le_refl _)]
 ·rw [rounds_fold (fun _ o x => if notZ x = true then o ++ [x] else o) _ _ (fun _ _ _ _ => rfl)]
  have key : ∀ (l : List ALeg) (i : Nat) (o : List ALeg), foldN (fun _ o x => if notZ x = true then o ++ [x] else o) i o l = o ++ l.filter notZ := by
   intro l
   induction l with
   | nil => intro i o; simp [foldN]
   | cons x l ih => intro i o; rw [foldN, ih, List.filter_cons]; split <;> simp
  rw [key, List.nil_append, if_pos (List.length_filter_le _ _)]
 ·intro B _ o ho
  rw [if_pos ho]
  cases o with
  | nil => simp [L1018_2, st2]
  | cons y o => simp [L1018_2, st2]
 ·intro B _ i o hi ho c hc
  have h1 : (i : Int) < g.length := by omega
  have h3 := wr1 (i := i) (by omega)
  have hs : (if notZ g[i] = true then o ++ [g[i]] else o).length ≤ i + 1 := by
   split
   ·simp; omega
   ·omega
  have hc' := fun fr H => hc _ fr H hs
  clear hc
  have hz : (g[i].Amount != 0) = notZ g[i] := rfl
  obtain ⟨q, hq⟩ : ∃ q, notZ g[i] = q := ⟨_, rfl⟩
  simp only [hq] at hz hc' ⊢
  have ho2 := ho
  cases o with
  | nil =>
   cases q with
   | true =>
    simp [L1018_2, st2, h1, hi, h3, hz, ↓bo_iaR, ↓subDw, ↓subD0]
    exact hc' _ _ (by simp [gc, Fr.keep, reach, frRefs, heapRefs, PV.refs, place, gcH, orefs, Obj.refs, PV.ren, Obj.ren, Heap.obj, Fr.ren, gh, List.idxOf?_cons, st2])
   | false =>
    simp [L1018_2, st2, h1, hi, h3, hz, ↓bo_iaR, ↓subD0]
    exact hc' _ _ (by simp [gc, Fr.keep, reach, frRefs, heapRefs, PV.refs, place, gcH, orefs, Obj.refs, PV.ren, Obj.ren, Heap.obj, Fr.ren, gh, List.idxOf?_cons, st2])
  | cons y o =>
   have g5 : (o.length + 1 + 1) * 32 ≤ 140737488355328 := by simp at ho2; omega
   have g6 : ((y :: o).map ALeg.dv).take (o.length + 1) = (y :: o).map ALeg.dv := List.take_of_length_le (by simp)
   have g7 : (o.map ALeg.dv).take o.length = o.map ALeg.dv := List.take_of_length_le (by simp)
   cases q with
   | true =>
    simp [L1018_2, st2, h1, hi, h3, hz, g5, g7, ↓bo_iaR, ↓subDw, ↓subD0, ↓appE_rf]
    exact hc' _ _ (by simp [gc, Fr.keep, reach, frRefs, heapRefs, PV.refs, place, gcH, orefs, Obj.refs, PV.ren, Obj.ren, Heap.obj, Fr.ren, gh, List.idxOf?_cons, st2])
   | false =>
    simp [L1018_2, st2, h1, hi, h3, hz, ↓bo_iaR, ↓subD0]
    exact hc' _ _ (by simp [gc, Fr.keep, reach, frRefs, heapRefs, PV.refs, place, gcH, orefs, Obj.refs, PV.ren, Obj.ren, Heap.obj, Fr.ren, gh, List.idxOf?_cons, st2])
theorem val1018 (T : Tab) (hN : HN T) (l : List ALeg) (t : Bool) (hn : l.length < 1000000) : T.val 1018 [.l (K1 3) (l.map ALeg.dv) t] = some (.d (.l (K1 3) ((netL l).map ALeg.dv) false), true) := by
 rw [val_k T (hN 1018 F1018 rfl) rfl]
 have lp1 := fun k fr H => @lp1018_1 T hN l t hn k fr H
 have hl := foldG_len l []
 have hd : netL l = (l.foldl insG []).filter notZ := rfl
 rw [hd]
 generalize l.foldl insG [] = g at *
 simp at hl
 simp [F1018, Fr.ofArgs]
 refine (lp1 _ _ _ (by simp [gc, Fr.keep, reach, frRefs, heapRefs, PV.refs, gcH, PV.ren, Obj.ren, Heap.obj, Fr.ren, gh])).trans ?_
 cases g with
 | nil =>
  simp [outV, outO]
  rw [kC_loop]
  simp [gc, Fr.keep, reach, frRefs, heapRefs, PV.refs, gcH, PV.ren, Obj.ren, Heap.obj, Fr.ren, gh]
  simp [L1018_2]
 | cons y g =>
  have lp2 := fun k fr H => @lp1018_2 T (y :: g) (by omega) k fr H
  generalize hg : y :: g = gl at *
  have hov : outV (K1 3) (gl.map ALeg.dv) = .r 0 (K1 3) 0 gl.length false := by subst hg; simp [outV]
  have hoo : outO (K1 3) (gl.map ALeg.dv) = [some (.sl (K1 3) 0 (gl.map ALeg.dv))] := by subst hg; simp [outO]
  rw [hov, hoo]
  simp
  refine (lp2 _ _ _ (by simp [gc, Fr.keep, reach, frRefs, heapRefs, PV.refs, place, gcH, orefs, Obj.refs, PV.ren, Obj.ren, Heap.obj, Fr.ren, gh, List.idxOf?_cons, st2])).trans ?_
  cases gl.filter notZ with
  | nil => simp [st2]
  | cons a o =>
   have g7 : (o.map ALeg.dv).take o.length = o.map ALeg.dv := List.take_of_length_le (by simp)
   simp [st2, g7]
end Go.Sim
end
section
namespace Go.Sim
set_option maxRecDepth 10000
set_option maxHeartbeats 4000000
theorem ltL_z {a b : ALeg} (ha : a.Account = 0) (hb : b.Account = 0) : ltL a b = Op.bytesLess a.Currency b.Currency := by
 simp [ltL, ha, hb]
theorem lp771_0 (T : Tab) (l g : List ALeg) (hz0 : Z0 g) (t : Bool) (i : Nat) (hi : i < l.length) (_hn : l.length < 1000000) (hg : g.length < 1000000) {k : KC (PV × Bool)} {r : Option (PV × Bool)} {fr : Fr} {H : Heap}
  (he : ∀ b, k (.exit 2) [(30, .d (.b b)), (6, .d (I (plc g (zM l[i])))), (5, .d (.l (K1 2) [] true)), (4, .d (I i)), (3, .r 0 (K1 2) 0 g.length false), (0, .d (.l (K1 3) (l.map ALeg.dv) t))] [some (.sl (K1 2) 0 (g.map mdv))] = r)
  (h0 : gc [0, 3, 4, 5, 6] 0 ⟨fr, H⟩ = ⟨[(6, .d (I 0)), (5, .d (.l (K1 2) [] true)), (4, .d (I i)), (3, .r 0 (K1 2) 0 g.length false), (0, .d (.l (K1 3) (l.map ALeg.dv) t))], [some (.sl (K1 2) 0 (g.map mdv))]⟩) :
  kC T.env 0 fr H (.h (.loop [0, 3, 4, 5, 6] L771_0, k)) = r := by
 have h1 : (i : Int) < l.length := by omega
 refine loop_iter (fun j : Nat => ⟨[(6, .d (I j)), (5, .d (.l (K1 2) [] true)), (4, .d (I i)), (3, .r 0 (K1 2) 0 g.length false), (0, .d (.l (K1 3) (l.map ALeg.dv) t))], [some (.sl (K1 2) 0 (g.map mdv))]⟩) (fun j => j) (plc g (zM l[i])) ?_ ?_ (by rw [h0]; rfl)
 ·intro B _
  by_cases hp : plc g (zM l[i]) < g.length
  ·have hat := plc_at g (zM l[i]) hp
   rw [ltL_z (hz0 _ (List.getElem_mem _)) rfl] at hat
   have ec : (zM l[i]).Currency = l[i].Currency := rfl
   rw [ec] at hat
   generalize plc g (zM l[i]) = p at *
   have g1 : (p : Int) < g.length := by omega
   simp [L771_0, ↓kC_regD, ↓kDq_nil, ↓kDq_O, ↓kDq_OG, ↓aftD_go, nfp_go, ↓d_mov, ↓d_pick, ↓d_load, ↓d_bin, ↓d_faddr, ↓d_iaddr, ↓d_len, accD, writeS, touchS, footD, storeD, chg, roOf, runs, pairsD, disj, PV.refs, IOp.okD, Nat.testBit, hp, g1, hi, h1, ↓bo_iaR, ↓subD0, mcells, ↓bo_lssS, hat, he]
  ·have hp' : ¬ ((plc g (zM l[i]) : Int) < g.length) := by omega
   simp [L771_0, ↓kC_regD, ↓kDq_nil, ↓kDq_O, ↓kDq_OG, ↓aftD_go, nfp_go, ↓d_mov, ↓d_pick, ↓d_load, ↓d_bin, ↓d_faddr, ↓d_iaddr, ↓d_len, accD, writeS, touchS, footD, storeD, chg, roOf, runs, pairsD, disj, PV.refs, PV.refsL, IOp.okD, Nat.testBit, hp', he]
 ·intro B _ j hj c hc
  have hjg : j < g.length := Nat.lt_of_lt_of_le hj (plc_le _ _)
  have hlt := plc_lt g (zM l[i]) j hjg hj
  rw [ltL_z (hz0 _ (List.getElem_mem _)) rfl] at hlt
  have ec : (zM l[i]).Currency = l[i].Currency := rfl
  rw [ec] at hlt
  have g1 : (j : Int) < g.length := by omega
  have w : IntKind.i64.wrap ((j : Int) + 1) = (j : Int) + 1 := wrI (by omega) (by omega)
  simp [L771_0, ↓kC_regD, ↓kDq_nil, ↓kDq_O, ↓kDq_OG, ↓aftD_go, nfp_go, ↓d_mov, ↓d_pick, ↓d_load, ↓d_bin, ↓d_faddr, ↓d_iaddr, ↓d_len, accD, writeS, touchS, footD, storeD, chg, roOf, runs, pairsD, disj, PV.refs, IOp.okD, Nat.testBit, hjg, g1, hi, h1, w, ↓bo_iaR, ↓subD0, mcells, ↓bo_lssS, hlt]
  exact hc _ _ (by simp [gc, Fr.keep, reach, frRefs, heapRefs, PV.refs, place, gcH, orefs, Obj.refs, PV.ren, Obj.ren, Heap.obj, Fr.ren, gh, List.idxOf?_cons])
theorem lp771_1 (T : Tab) (l : List ALeg) (t : Bool) (hn : l.length < 1000000) (ho : ∀ x ∈ l, w64 x.Amount = x.Amount) {k : KC (PV × Bool)} {fr : Fr} {H : Heap}
  (h0 : gc [0, 3, 4] 0 ⟨fr, H⟩ = ⟨[(4, .d (I 0)), (3, .d (.l (K1 2) [] true)), (0, .d (.l (K1 3) (l.map ALeg.dv) t))], []⟩) :
  kC T.env 0 fr H (.h (.loop [0, 3, 4] L771_1, k)) = k (.exit 0) [(11, .d (.b false)), (4, .d (I l.length)), (3, outV (K1 2) ((l.foldl insS []).map mdv)), (0, .d (.l (K1 3) (l.map ALeg.dv) t))] (outO (K1 2) ((l.foldl insS []).map mdv)) := by
 rw [loop_rounds l (fun i (g : List ALeg) => ⟨[(4, .d (I i)), (3, outV (K1 2) (g.map mdv)), (0, .d (.l (K1 3) (l.map ALeg.dv) t))], outO (K1 2) (g.map mdv)⟩) (fun i g => (Srt g ∧ Z0 g) ∧ g.length ≤ i) (fun _ g x c => c (insS g x)) (fun g => k (.exit 0) [(11, .d (.b false)), (4, .d (I l.length)), (3, outV (K1 2) (g.map mdv)), (0, .d (.l (K1 3) (l.map ALeg.dv) t))] (outO (K1 2) (g.map mdv))) ?_ ?_ (b0 := []) h0 ⟨⟨List.Pairwise.nil, fun _ h => by cases h⟩, Nat.le_refl _⟩]
 ·rw [rounds_fold (fun _ g x => insS g x) _ _ (fun _ _ _ _ => rfl)]
  have : ∀ (l : List ALeg) (i : Nat) (g : List ALeg), foldN (fun _ g x => insS g x) i g l = l.foldl insS g := by
   intro l
   induction l with
   | nil => intro _ _; rfl
   | cons x l ih => intro i g; rw [foldN, ih, List.foldl_cons]
  rw [this]
 ·intro B _ g _
  cases g with
  | nil => simp [L771_1, outV, outO]
  | cons y g => simp [L771_1, outV, outO]
 ·intro B _ i g hi hg c hc
  have h1 : (i : Int) < l.length := by omega
  have h3 := wr1 (i := i) (by omega)
  have hg' : (Srt (insS g l[i]) ∧ Z0 (insS g l[i])) ∧ (insS g l[i]).length ≤ i + 1 := ⟨⟨srt_insG _ hg.1.1, z0_ins _ hg.1.2⟩, Nat.le_trans (insG_len _ _) (by omega)⟩
  have hc' := fun fr H => hc (insS g l[i]) fr H hg'
  clear hc
  cases g with
  | nil =>
   have hz : insS [] l[i] = [zM l[i]] := rfl
   rw [hz] at hc' ⊢
   simp [L771_1, outV, outO, h1]
   rw [kC_loop]
   simp [gc, Fr.keep, reach, frRefs, heapRefs, PV.refs, gcH, PV.ren, Obj.ren, Heap.obj, Fr.ren, gh]
   simp [L771_0, ↓kC_regD, ↓kDq_nil, ↓kDq_O, ↓kDq_OG, ↓aftD_go, nfp_go, ↓d_mov, ↓d_pick, ↓d_load, ↓d_bin, ↓d_faddr, ↓d_iaddr, ↓d_len, accD, writeS, touchS, footD, storeD, chg, runs, pairsD, disj, PV.refs, PV.refsL, IOp.okD, Nat.testBit, h1, hi, h3, ↓bo_slL, ↓appE_rf, b_agg, agg_n, agg_c, cells_s, cells_i, putAt, mkA, size_n, List.drop_succ_cons, List.drop_zero, List.take_succ_cons, List.take_zero, List.cons_append, List.nil_append]
   exact hc' _ _ (by simp [gc, Fr.keep, reach, frRefs, heapRefs, PV.refs, place, gcH, orefs, Obj.refs, PV.ren, Obj.ren, Heap.obj, Fr.ren, gh, List.idxOf?_cons, outV, outO, mdv, zM])
  | cons y g =>
   obtain ⟨gl, hgl⟩ : ∃ gl, y :: g = gl := ⟨_, rfl⟩
   have hne : y :: g ≠ [] := by simp
   rw [hgl] at hg hg' hc' hne ⊢
   simp only [outV_map _ hne, outO_map _ hne]
   have hne2 : insS gl l[i] ≠ [] := insG_ne gl (zM l[i])
   simp only [outV_map _ hne2, outO_map _ hne2] at hc'
   have hlen : gl.length < 1000000 := by omega
   have lp := fun k r he fr H => @lp771_0 T l gl hg.1.2 t i hi hn hlen k r fr H he
   have hpl := plc_le gl (zM l[i])
   simp [L771_1, h1]
   refine lp _ _ (fun b => ?_) _ _ (by simp [gc, Fr.keep, reach, frRefs, heapRefs, PV.refs, place, gcH, orefs, Obj.refs, PV.ren, Obj.ren, Heap.obj, Fr.ren, gh, List.idxOf?_cons])
   have hae : ∀ p (h : p < gl.length), gl[p].Account = 0 := fun p h => hg.1.2 _ (List.getElem_mem _)
   have hwx := ho l[i] (List.getElem_mem _)
   obtain ⟨x, hx⟩ : ∃ x, l[i] = x := ⟨_, rfl⟩
   simp only [hx] at hc' hpl hg' hwx ⊢
   have ht : (gl.map mdv).take gl.length = gl.map mdv := List.take_of_length_le (by simp)
   by_cases hp : plc gl (zM x) < gl.length
   ·have hat := plc_at gl (zM x) hp
    by_cases hl : ltL (zM x) gl[plc gl (zM x)] = true
    ·have hins : insS gl x = gl.take (plc gl (zM x)) ++ zM x :: gl.drop (plc gl (zM x)) := insG_new gl (zM x) (fun _ => hl)
     rw [hins] at hc' ⊢
     rw [ltL_z rfl (hae _ hp)] at hl
     have hq : (gl[plc gl (zM x)].Currency == x.Currency) = false := by
      have ec : (zM x).Currency = x.Currency := rfl
      rw [ec] at hl
      have : gl[plc gl (zM x)].Currency ≠ x.Currency := fun h => by rw [h, bl_irr] at hl; cases hl
      simpa using this
     generalize plc gl (zM x) = p at *
     have g1 : (p : Int) < gl.length := by omega
     have g2 : (p : Int) ≤ gl.length := by omega
     have g4 : p * 24 ≤ 140737488355328 := by omega
     have g5 : (p + 1) * 24 ≤ 140737488355328 := by omega
     have g6 : (p + 1 + (gl.length - p)) * 24 ≤ 140737488355328 := by omega
     have g7 : p + (gl.length - p) = gl.length := by omega
     have g8 : min p gl.length = p := by omega
     have g9 : ((gl.map mdv).take p).length = p := by simp; omega
     simp [↓kC_regD, ↓kDq_nil, ↓kDq_O, ↓kDq_OG, ↓aftD_go, nfp_go, ↓d_mov, ↓d_pick, ↓d_load, ↓d_bin, ↓d_faddr, ↓d_iaddr, ↓d_len, accD, writeS, touchS, footD, storeD, chg, roOf, runs, pairsD, disj, PV.refs, IOp.okD, Nat.testBit, hx, hi, h1, h3, hp, hpl, g1, g2, g4, g5, g6, g7, g9, hq, mcells, ↓bo_iaR, ↓subD0, ↓bo_slR, ↓appE_rf, b_agg, agg_n, agg_c, cells_s, cells_i, putAt, mkA, size_n, List.drop_succ_cons, List.drop_zero, List.take_succ_cons, List.take_zero, List.cons_append, List.nil_append]
     refine hc' _ _ ?_
     have hm : DV.a [.s x.Currency, .i .i64 x.Amount] = mdv (zM x) := rfl
     rw [hm, lst1 (gl.map mdv) (mdv (zM x)) p gl.length (by omega) (by simp)]
     simp [gc, Fr.keep, reach, frRefs, heapRefs, PV.refs, place, gcH, orefs, Obj.refs, PV.ren, Obj.ren, Heap.obj, Fr.ren, gh, List.idxOf?_cons]
     omega
    ·have hl' : ltL (zM x) gl[plc gl (zM x)] = false := by simpa using hl
     have hins : insS gl x = gl.set (plc gl (zM x)) (addL gl[plc gl (zM x)] (zM x)) := insG_old gl (zM x) hp hl'
     rw [hins] at hc' ⊢
     have hk := ltL_tri hl' hat
     have hq : gl[plc gl (zM x)].Currency = x.Currency := hk.2.symm
     have hq2 : (gl[plc gl (zM x)].Currency == x.Currency) = true := by simpa using hq
     generalize plc gl (zM x) = p at *
     have g1 : (p : Int) < gl.length := by omega
     have g2 : (p : Int) ≤ gl.length := by omega
     have g4 : p * 24 ≤ 140737488355328 := by omega
     have g5 : (p + 1) * 24 ≤ 140737488355328 := by omega
     have g6 : (p + 1 + (gl.length - (p + 1))) * 24 ≤ 140737488355328 := by omega
     have g7 : p + (gl.length - p) = gl.length := by omega
     have g7' : p + 1 + (gl.length - (p + 1)) = gl.length := by omega
     have g8 : min p gl.length = p := by omega
     have g9 : ((gl.map mdv).take p).length = p := by simp; omega
     have g10 : (p : Int) + 1 ≤ gl.length := by omega
     have g11 : (0 : Int) ≤ (p : Int) + 1 := by omega
     have g12 : ((p : Int) + 1).toNat = p + 1 := by omega
     have g13 : gl.length * 24 ≤ 140737488355328 := by omega
     have w : IntKind.i64.wrap ((p : Int) + 1) = (p : Int) + 1 := wrI (by omega) (by omega)
     simp [↓kC_regD, ↓kDq_nil, ↓kDq_O, ↓kDq_OG, ↓aftD_go, nfp_go, ↓d_mov, ↓d_pick, ↓d_load, ↓d_bin, ↓d_faddr, ↓d_iaddr, ↓d_len, accD, writeS, touchS, footD, storeD, chg, roOf, runs, pairsD, disj, PV.refs, IOp.okD, Nat.testBit, hx, hi, h1, h3, hp, hpl, g1, g2, g4, g5, g7', g9, g10, g11, g13, w, hq2, mcells, ↓bo_iaR, ↓subD0, ↓bo_slR, ↓appE_rf, b_agg, agg_n, agg_c, cells_s, cells_i, putAt, mkA, size_n, List.drop_succ_cons, List.drop_zero, List.take_succ_cons, List.take_zero, List.cons_append, List.nil_append]
     refine hc' _ _ ?_
     have hm : DV.a [.s x.Currency, .i .i64 (IntKind.i64.wrap (x.Amount + gl[p].Amount))] = mdv (addL gl[p] (zM x)) := by
      show _ = DV.a [.s gl[p].Currency, .i .i64 (w64 (gl[p].Amount + x.Amount))]
      rw [hq, w64, Int.add_comm]
     rw [hm, lst2 (gl.map mdv) (mdv (addL gl[p] (zM x))) p gl.length (by omega) (by simp)]
     rw [show (gl.map mdv).set p (mdv (addL gl[p] (zM x))) = (gl.set p (addL gl[p] (zM x))).map mdv from List.map_set.symm]
     simp [gc, Fr.keep, reach, frRefs, heapRefs, PV.refs, place, gcH, orefs, Obj.refs, PV.ren, Obj.ren, Heap.obj, Fr.ren, gh, List.idxOf?_cons]
   ·have hins : insS gl x = gl.take (plc gl (zM x)) ++ zM x :: gl.drop (plc gl (zM x)) := insG_new gl (zM x) (fun h => absurd h hp)
    rw [hins] at hc' ⊢
    have hpe : plc gl (zM x) = gl.length := by omega
    rw [hpe] at hc' ⊢
    clear hp hpe hpl hins lp hae
    generalize hz : gl.length = n at *
    have g4 : n * 24 ≤ 140737488355328 := by omega
    have g5 : (n + 1) * 24 ≤ 140737488355328 := by omega
    have g9 : ((gl.map mdv).take n).length = n := by simp; omega
    simp [↓kC_regD, ↓kDq_nil, ↓kDq_O, ↓kDq_OG, ↓aftD_go, nfp_go, ↓d_mov, ↓d_pick, ↓d_load, ↓d_bin, ↓d_faddr, ↓d_iaddr, ↓d_len, accD, writeS, touchS, footD, storeD, chg, roOf, runs, pairsD, disj, PV.refs, PV.refsL, IOp.okD, Nat.testBit, hx, hi, h1, h3, hz, g4, g5, ht, ↓bo_slR, ↓appE_rf, b_agg, agg_n, agg_c, cells_s, cells_i, putAt, mkA, size_n, List.drop_succ_cons, List.drop_zero, List.take_succ_cons, List.take_zero, List.cons_append, List.nil_append]
    refine hc' _ _ ?_
    have hm : DV.a [.s x.Currency, .i .i64 x.Amount] = mdv (zM x) := rfl
    rw [hm, List.take_of_length_le (by simp; omega)]
    have a1 : gl.take n = gl := List.take_of_length_le (by omega)
    have a2 : gl.drop n = [] := List.drop_of_length_le (by omega)
    rw [a1, a2]
    simp [gc, Fr.keep, reach, frRefs, heapRefs, PV.refs, place, gcH, orefs, Obj.refs, PV.ren, Obj.ren, Heap.obj, Fr.ren, gh, List.idxOf?_cons, hz]
theorem val771 (T : Tab) (hP : HP T) (l : List ALeg) (t : Bool) (hn : l.length < 1000000) (ho : ∀ x ∈ l, w64 x.Amount = x.Amount) : T.val 771 [.l (K1 3) (l.map ALeg.dv) t] = some (.d (.l (K1 2) ((l.foldl insS []).map mdv) false), true) := by
 rw [val_k T (hP 771 F771 rfl) rfl]
 have lp := fun k fr H => @lp771_1 T l t hn ho k fr H
 simp [F771, Fr.ofArgs]
 refine (lp _ _ _ (by simp [gc, Fr.keep, reach, frRefs, heapRefs, PV.refs, gcH, PV.ren, Obj.ren, Heap.obj, Fr.ren, gh])).trans ?_
 cases l.foldl insS [] with
 | nil => simp [outV, outO]
 | cons x g =>
  have ht : (g.map mdv).take g.length = g.map mdv := List.take_of_length_le (by simp)
  simp [outV, outO, ht]
end Go.Sim
end
section
namespace Go.Sim
set_option maxRecDepth 10000
set_option maxHeartbeats 8000000
def badL (x : ALeg) : Bool := decide (x.Account < 1) || (decide (x.Amount = 0) || (decide (x.Amount < -1000000000000) || decide (1000000000000 < x.Amount)))
def legE (x : ALeg) : Int := if badL x = true then 1 else if codB x.Currency = true then 0 else 14
def legsE : List ALeg → Int
 | [] => 0
 | x :: l => if legE x = 0 then legsE l else legE x
def allZ (g : List ALeg) : Bool := g.all fun x => x.Amount == 0
def chkE (e : AEntry) : Int := if keyB e.Key = true then (if (txtB e.Text 32 64 && (vday e.Booked && (vday e.Value && (vday e.Period && (!decide (e.Kind < 1) && (!decide (14 < e.Kind) && (!decide (e.Auth < 0) && !decide (3 < e.Auth)))))))) = true then (if e.Legs.l.length < 2 ∨ 12 < e.Legs.l.length then 5 else if legsE e.Legs.l = 0 then (if allZ (e.Legs.l.foldl insS []) = true then 0 else 15) else legsE e.Legs.l) else 1) else 4
theorem val770 (T : Tab) (hP : HP T) (x : ALeg) (hx : x.Currency.length ≤ maxLen) : T.val 770 [x.dv] = some (.d (I (legE x)), false) := by
 rw [val_k T (hP 770 F770 rfl) rfl]
 have e := val861 T hP x.Currency hx
 unfold legE badL
 simp [F770, Fr.ofArgs]
 repeat' (refine brn_split (fun h => ?_) (fun h => ?_) <;> (try simp at h) <;> (try simp [h, e]))
 all_goals first | omega | simp_all
theorem rounds_legs {R : Type} (r : Int → Option R) (done : Unit → Option R) (step : Nat → Unit → ALeg → (Unit → Option R) → Option R) (hs : ∀ i b x c, step i b x c = if legE x = 0 then c () else r (legE x)) : ∀ (i : Nat) (ls : List ALeg), rounds step done i () ls = if legsE ls = 0 then done () else r (legsE ls)
 | i, [] => by simp [rounds, legsE]
 | i, x :: l => by
  rw [rounds, hs, rounds_legs r done step hs (i + 1) l, legsE]
  by_cases h : legE x = 0
  ·simp [h]
  ·simp [h]
theorem lp679_0 (T : Tab) (hP : HP T) (e : AEntry) (hn : e.Legs.l.length ≤ maxLen) (ho : ∀ x ∈ e.Legs.l, x.ok) {k : KC (PV × Bool)} {r : Int → Option (PV × Bool)} {fr : Fr} {H : Heap} (hr : ∀ fr H n, fr.get 2 = .d (I n) → ghosts fr = [] → k .ret fr H = r n)
  (h0 : gc [1, 3] 0 ⟨fr, H⟩ = ⟨[(3, .d (I 0)), (1, .p 0 0 0)], [some (.box (K1 10) (.d e.dv))]⟩) :
  kC T.env 0 fr H (.h (.loop [1, 3] L679_0, k)) = if legsE e.Legs.l = 0 then k (.exit 0) [(72, .d (.b false)), (3, .d (I e.Legs.l.length)), (1, .p 0 0 0)] [some (.box (K1 10) (.d e.dv))] else r (legsE e.Legs.l) := by
 have hm := mxl
 rw [loop_rounds e.Legs.l (fun i _ => ⟨[(3, .d (I i)), (1, .p 0 0 0)], [some (.box (K1 10) (.d e.dv))]⟩) (fun _ _ => True) (fun i _ x c => if legE x = 0 then c () else r (legE x)) (fun _ => k (.exit 0) [(72, .d (.b false)), (3, .d (I e.Legs.l.length)), (1, .p 0 0 0)] [some (.box (K1 10) (.d e.dv))]) ?_ ?_ h0 trivial]
 ·exact rounds_legs r _ _ (fun _ _ _ _ => rfl) 0 _
 ·intro B _ _ _
  simp [L679_0]
 ·intro B _ i _ hi _ c hc
  have h1 : (i : Int) < e.Legs.l.length := by omega
  have h3 := wr1 (i := i) (by omega)
  have ev := val770 T hP e.Legs.l[i] (ho _ (List.getElem_mem _)).2.2
  by_cases hz : legE e.Legs.l[i] = 0
  ·rw [if_pos hz]
   rw [hz] at ev
   simp [L679_0, h1, hi, h3, ev, bne]
   exact hc () _ _ trivial (by simp [gc, Fr.keep, reach, frRefs, heapRefs, PV.refs, place, gcH, orefs, Obj.refs, PV.ren, Obj.ren, Heap.obj, Fr.ren, gh, List.idxOf?_cons])
  ·rw [if_neg hz]
   have hz' : (legE e.Legs.l[i] == 0) = false := by simpa using hz
   simp [L679_0, h1, hi, ev, hz', bne]
   exact hr _ _ _ (by simp [Fr.get]) (by simp [ghosts, gh])
theorem lp111_0 (T : Tab) (hP : HP T) (e : AEntry) (hn : e.Legs.l.length ≤ maxLen) (ho : ∀ x ∈ e.Legs.l, x.ok) {k : KC (PV × Bool)} {r : Int → Option (PV × Bool)} {fr : Fr} {H : Heap} (hr : ∀ fr H n, fr.get 2 = .d (I n) → ghosts fr = [] → k .ret fr H = r n)
  (h0 : gc [1, 66, 67, 68] 0 ⟨fr, H⟩ = ⟨[(68, .d (I 0)), (67, .d (I e.Legs.l.length)), (66, .d (.l (K1 3) (e.Legs.l.map ALeg.dv) e.Legs.t)), (1, .p 0 0 0)], [some (.box (K1 10) (.d e.dv))]⟩) :
  kC T.env 0 fr H (.h (.loop [1, 66, 67, 68] L111_0, k)) = if legsE e.Legs.l = 0 then k (.exit 1) [(69, .d (.b false)), (68, .d (I e.Legs.l.length)), (67, .d (I e.Legs.l.length)), (66, .d (.l (K1 3) (e.Legs.l.map ALeg.dv) e.Legs.t)), (1, .p 0 0 0)] [some (.box (K1 10) (.d e.dv))] else r (legsE e.Legs.l) := by
 have hm := mxl
 rw [loop_rounds e.Legs.l (fun i _ => ⟨[(68, .d (I i)), (67, .d (I e.Legs.l.length)), (66, .d (.l (K1 3) (e.Legs.l.map ALeg.dv) e.Legs.t)), (1, .p 0 0 0)], [some (.box (K1 10) (.d e.dv))]⟩) (fun _ _ => True) (fun i _ x c => if legE x = 0 then c () else r (legE x)) (fun _ => k (.exit 1) [(69, .d (.b false)), (68, .d (I e.Legs.l.length)), (67, .d (I e.Legs.l.length)), (66, .d (.l (K1 3) (e.Legs.l.map ALeg.dv) e.Legs.t)), (1, .p 0 0 0)] [some (.box (K1 10) (.d e.dv))]) ?_ ?_ h0 trivial]
 ·exact rounds_legs r _ _ (fun _ _ _ _ => rfl) 0 _
 ·intro B _ _ _
  simp [L111_0]
 ·intro B _ i _ hi _ c hc
  have h1 : (i : Int) < e.Legs.l.length := by omega
  have h3 := wr1 (i := i) (by omega)
  have ev := val185 T hP e.Legs.l[i].Currency (ho _ (List.getElem_mem _)).2.2
  unfold legE badL
  by_cases z1 : e.Legs.l[i].Account < 1
  ·simp [L111_0, h1, hi, z1]
   exact hr _ _ _ (by simp [Fr.get]) (by simp [ghosts, gh])
  ·have q1 : decide (e.Legs.l[i].Account < 1) = false := by simpa using z1
   by_cases z2 : e.Legs.l[i].Amount = 0
   ·simp [L111_0, h1, hi, z1, z2]
    exact hr _ _ _ (by simp [Fr.get]) (by simp [ghosts, gh])
   ·have q2 : (e.Legs.l[i].Amount == 0) = false := by simpa using z2
    by_cases z3 : e.Legs.l[i].Amount < -1000000000000
    ·simp [L111_0, h1, hi, z1, z2, q2, z3]
     exact hr _ _ _ (by simp [Fr.get]) (by simp [ghosts, gh])
    ·by_cases z4 : 1000000000000 < e.Legs.l[i].Amount
     ·simp [L111_0, h1, hi, z1, z2, q2, z3, z4]
      exact hr _ _ _ (by simp [Fr.get]) (by simp [ghosts, gh])
     ·cases hc2 : codB e.Legs.l[i].Currency with
      | true =>
       rw [hc2] at ev
       simp [L111_0, h1, hi, h3, ev, z1, z2, q2, z3, z4]
       exact hc () _ _ trivial (by simp [gc, Fr.keep, reach, frRefs, heapRefs, PV.refs, place, gcH, orefs, Obj.refs, PV.ren, Obj.ren, Heap.obj, Fr.ren, gh, List.idxOf?_cons])
      | false =>
       rw [hc2] at ev
       simp [L111_0, h1, hi, ev, z1, z2, q2, z3, z4]
       exact hr _ _ _ (by simp [Fr.get]) (by simp [ghosts, gh])
theorem lp111_1 (T : Tab) (g : List ALeg) (hn : g.length ≤ 100) {k : KC (PV × Bool)} {r : Option (PV × Bool)} {fr : Fr} {H : Heap} (hr : ∀ fr H, fr.get 2 = .d (I 15) → ghosts fr = [] → k .ret fr H = r)
  (h0 : gc [97, 98, 99] 0 ⟨fr, H⟩ = ⟨[(99, .d (I 0)), (98, .d (I g.length)), (97, .d (.l (K1 2) (g.map mdv) false))], []⟩) :
  kC T.env 0 fr H (.h (.loop [97, 98, 99] L111_1, k)) = if allZ g = true then k (.exit 3) [(100, .d (.b false)), (99, .d (I g.length)), (98, .d (I g.length)), (97, .d (.l (K1 2) (g.map mdv) false))] [] else r := by
 rw [loop_rounds g (fun i _ => ⟨[(99, .d (I i)), (98, .d (I g.length)), (97, .d (.l (K1 2) (g.map mdv) false))], []⟩) (fun _ _ => True) (fun i _ x c => if (fun x : ALeg => x.Amount == 0) x = true then c () else r) (fun _ => k (.exit 3) [(100, .d (.b false)), (99, .d (I g.length)), (98, .d (I g.length)), (97, .d (.l (K1 2) (g.map mdv) false))] []) ?_ ?_ h0 trivial]
 ·rw [rounds_all (fun x : ALeg => x.Amount == 0) r]
  ·rfl
  ·exact fun _ _ _ _ => rfl
 ·intro B _ _ _
  simp [L111_1]
 ·intro B _ i _ hi _ c hc
  have h1 : (i : Int) < g.length := by omega
  have h3 := wr1 (i := i) (by omega)
  by_cases hz : g[i].Amount = 0
  ·simp [L111_1, h1, hi, h3, hz, mfits, mcells, bne]
   exact hc () _ _ trivial (by simp [gc, Fr.keep, reach, frRefs, heapRefs, PV.refs, gcH, PV.ren, Obj.ren, Heap.obj, Fr.ren, gh])
  ·have hz' : (g[i].Amount == 0) = false := by simpa using hz
   simp [L111_1, h1, hi, hz', mfits, mcells, bne]
   exact hr _ _ (by simp [Fr.get]) (by simp [ghosts, gh])
theorem lp679_1 (T : Tab) (g : List ALeg) (hn : g.length ≤ 100) {k : KC (PV × Bool)} {r : Option (PV × Bool)} {fr : Fr} {H : Heap} (hr : ∀ fr H, fr.get 2 = .d (I 15) → ghosts fr = [] → k .ret fr H = r)
  (h0 : gc [5, 6] 0 ⟨fr, H⟩ = ⟨[(6, .d (I 0)), (5, .d (.l (K1 2) (g.map mdv) false))], []⟩) :
  kC T.env 0 fr H (.h (.loop [5, 6] L679_1, k)) = if allZ g = true then k (.exit 2) [(90, .d (.b false)), (6, .d (I g.length)), (5, .d (.l (K1 2) (g.map mdv) false))] [] else r := by
 rw [loop_rounds g (fun i _ => ⟨[(6, .d (I i)), (5, .d (.l (K1 2) (g.map mdv) false))], []⟩) (fun _ _ => True) (fun i _ x c => if (fun x : ALeg => x.Amount == 0) x = true then c () else r) (fun _ => k (.exit 2) [(90, .d (.b false)), (6, .d (I g.length)), (5, .d (.l (K1 2) (g.map mdv) false))] []) ?_ ?_ h0 trivial]
 ·rw [rounds_all (fun x : ALeg => x.Amount == 0) r]
  ·rfl
  ·exact fun _ _ _ _ => rfl
 ·intro B _ _ _
  simp [L679_1]
 ·intro B _ i _ hi _ c hc
  have h1 : (i : Int) < g.length := by omega
  have h3 := wr1 (i := i) (by omega)
  by_cases hz : g[i].Amount = 0
  ·simp [L679_1, h1, hi, h3, hz, mcells, bne]
   exact hc () _ _ trivial (by simp [gc, Fr.keep, reach, frRefs, heapRefs, PV.refs, gcH, PV.ren, Obj.ren, Heap.obj, Fr.ren, gh])
  ·have hz' : (g[i].Amount == 0) = false := by simpa using hz
   simp [L679_1, h1, hi, hz', mcells, bne]
   exact hr _ _ (by simp [Fr.get]) (by simp [ghosts, gh])
end Go.Sim
end
section
namespace Go.Sim
set_option maxRecDepth 10000
set_option maxHeartbeats 8000000
theorem inK_w {n : Int} (h : inK .i64 n) : w64 n = n := by
 simp only [inK, Lit.wf, IntKind.min, IntKind.max, IntKind.signed, IntKind.bits, Bool.and_eq_true, decide_eq_true_eq, if_true] at h
 exact wrI (by omega) (by omega)
theorem insS_len : ∀ (l g : List ALeg), (l.foldl insS g).length ≤ g.length + l.length
 | [], g => by simp
 | x :: l, g => by
  have := insS_len l (insS g x)
  have h2 := insG_len g (zM x)
  rw [List.foldl_cons]
  have h3 : (insS g x).length ≤ g.length + 1 := h2
  simp; omega
theorem val111 (T : Tab) (hN : HN T) (hP : HP T) (hI : HI2 T) (e : AEntry) (he : e.ok) : T.val 111 [e.dv] = some (.d (I (chkE e)), false) := by
 rw [val_k T (hP 111 F111 rfl) rfl]
 have e1 := val182 T hP e.Key he.2.2.2.2.2.2.1
 have e2 : T.val 183 [.s e.Text, .i .u8 32, I 64] = some (.d (.b (txtB e.Text 32 64)), false) := val183 T hP e.Text 32 64 he.2.2.2.2.2.2.2.1
 have e3 := val184 T hP e.Booked
 have e4 := val184 T hP e.Value
 have e5 := val184 T hP e.Period
 unfold chkE
 cases hk : keyB e.Key with
 | false => rw [hk] at e1; simp [F111, Fr.ofArgs, e1]
 | true =>
  rw [hk] at e1
  cases ht : txtB e.Text 32 64 with
  | false => rw [ht] at e2; simp [F111, Fr.ofArgs, e1, e2]
  | true =>
   rw [ht] at e2
   cases hb : vday e.Booked with
   | false => rw [hb] at e3; simp [F111, Fr.ofArgs, e1, e2, e3]
   | true =>
    rw [hb] at e3
    cases hv : vday e.Value with
    | false => rw [hv] at e4; simp [F111, Fr.ofArgs, e1, e2, e3, e4]
    | true =>
     rw [hv] at e4
     cases hp : vday e.Period with
     | false => rw [hp] at e5; simp [F111, Fr.ofArgs, e1, e2, e3, e4, e5]
     | true =>
      rw [hp] at e5
      by_cases k1 : e.Kind < 1
      ·simp [F111, Fr.ofArgs, e1, e2, e3, e4, e5, k1]
      ·have k1' : decide (e.Kind < 1) = false := by simpa using k1
       by_cases k2 : 14 < e.Kind
       ·simp [F111, Fr.ofArgs, e1, e2, e3, e4, e5, k1, k2]
       ·have k2' : decide (14 < e.Kind) = false := by simpa using k2
        by_cases a1 : e.Auth < 0
        ·simp [F111, Fr.ofArgs, e1, e2, e3, e4, e5, k1, k2, a1]
        ·have a1' : decide (e.Auth < 0) = false := by simpa using a1
         by_cases a2 : 3 < e.Auth
         ·simp [F111, Fr.ofArgs, e1, e2, e3, e4, e5, k1, k2, a1, a2]
         ·have a2' : decide (3 < e.Auth) = false := by simpa using a2
          by_cases n1 : e.Legs.l.length < 2
          ·have n1' : (e.Legs.l.length : Int) < 2 := by omega
           simp [F111, Fr.ofArgs, e1, e2, e3, e4, e5, k1, k2, a1, a2, n1, n1']
          ·have n1' : ¬ (e.Legs.l.length : Int) < 2 := by omega
           by_cases n2 : 12 < e.Legs.l.length
           ·have n2' : (12 : Int) < e.Legs.l.length := by omega
            simp [F111, Fr.ofArgs, e1, e2, e3, e4, e5, k1, k2, a1, a2, n1, n1', n2, n2']
           ·have n2' : ¬ (12 : Int) < e.Legs.l.length := by omega
            have e6 := val186 T hN hP hI e.Legs.l e.Legs.t (by omega) (fun x hx => inK_w (he.2.2.2.2.2.2.2.2.1.2 x hx).2.1)
            have hl := insS_len e.Legs.l []
            simp only [List.length_nil] at hl
            simp [F111, Fr.ofArgs, e1, e2, e3, e4, e5, k1, k2, a1, a2, n1, n1', n2, n2']
            refine (lp111_0 T hP e (by have := he.2.2.2.2.2.2.2.2.1.1; exact this) he.2.2.2.2.2.2.2.2.1.2 (r := fun n => some (.d (I n), false)) (fun fr H n h hg => by simp [h, hg, fin_ret]) (by simp [gc, Fr.keep, reach, frRefs, heapRefs, PV.refs, place, gcH, orefs, Obj.refs, PV.ren, Obj.ren, Heap.obj, Fr.ren, gh, List.idxOf?_cons])).trans ?_
            by_cases g1 : legsE e.Legs.l = 0
            ·rw [if_pos g1]
             have lp := fun k fr H r hr h0 => @lp111_1 T (e.Legs.l.foldl insS []) (by omega) k r fr H hr h0
             simp [e6, g1]
             rw [lp _ _ _ (some (.d (I 15), false)) (fun fr H h hg => by simp [h, hg, fin_ret]) (by simp [gc, Fr.keep, reach, frRefs, heapRefs, PV.refs, gcH, PV.ren, Obj.ren, Heap.obj, Fr.ren, gh])]
             cases allZ (e.Legs.l.foldl insS []) with
             | true => simp
             | false => simp
            ·rw [if_neg g1]; simp [g1]
theorem val679 (T : Tab) (hP : HP T) (e : AEntry) (he : e.ok) : T.val 679 [e.dv] = some (.d (I (chkE e)), false) := by
 rw [val_k T (hP 679 F679 rfl) rfl]
 have e1 := val607 T hP e.Key he.2.2.2.2.2.2.1
 have e2 : T.val 685 [.s e.Text, I 64, .i .u8 32] = some (.d (.b (txtB e.Text 32 64)), false) := val685 T hP e.Text 32 64 he.2.2.2.2.2.2.2.1
 have e3 := val544p T hP e.Booked
 have e4 := val544p T hP e.Value
 have e5 := val544p T hP e.Period
 unfold chkE
 cases hk : keyB e.Key with
 | false => rw [hk] at e1; simp [F679, Fr.ofArgs, e1]
 | true =>
  rw [hk] at e1
  cases ht : txtB e.Text 32 64 with
  | false => rw [ht] at e2; simp [F679, Fr.ofArgs, e1, e2]
  | true =>
   rw [ht] at e2
   cases hb : vday e.Booked with
   | false => rw [hb] at e3; simp [F679, Fr.ofArgs, e1, e2, e3]
   | true =>
    rw [hb] at e3
    cases hv : vday e.Value with
    | false => rw [hv] at e4; simp [F679, Fr.ofArgs, e1, e2, e3, e4]
    | true =>
     rw [hv] at e4
     by_cases k1 : e.Kind < 1
     ·simp [F679, Fr.ofArgs, e1, e2, e3, e4, k1]
     ·have k1' : decide (e.Kind < 1) = false := by simpa using k1
      by_cases k2 : 14 < e.Kind
      ·simp [F679, Fr.ofArgs, e1, e2, e3, e4, k1, k2]
      ·have k2' : decide (14 < e.Kind) = false := by simpa using k2
       by_cases a1 : e.Auth < 0
       ·simp [F679, Fr.ofArgs, e1, e2, e3, e4, k1, k2, a1]
       ·have a1' : decide (e.Auth < 0) = false := by simpa using a1
        by_cases a2 : 3 < e.Auth
        ·simp [F679, Fr.ofArgs, e1, e2, e3, e4, k1, k2, a1, a2]
        ·have a2' : decide (3 < e.Auth) = false := by simpa using a2
         by_cases hz : e.Period = 0
         ·have hp0 : vday 0 = true := rfl
          by_cases n1 : e.Legs.l.length < 2
          ·have n1' : (e.Legs.l.length : Int) < 2 := by omega
           simp [F679, Fr.ofArgs, e1, e2, e3, e4, k1, k2, a1, a2, hz, hp0, n1, n1', bne]
          ·have n1' : ¬ (e.Legs.l.length : Int) < 2 := by omega
           by_cases n2 : 12 < e.Legs.l.length
           ·have n2' : (12 : Int) < e.Legs.l.length := by omega
            simp [F679, Fr.ofArgs, e1, e2, e3, e4, k1, k2, a1, a2, hz, hp0, n1, n1', n2, n2', bne]
           ·have n2' : ¬ (12 : Int) < e.Legs.l.length := by omega
            have e6 := val771 T hP e.Legs.l e.Legs.t (by omega) (fun x hx => inK_w (he.2.2.2.2.2.2.2.2.1.2 x hx).2.1)
            have hl := insS_len e.Legs.l []
            simp only [List.length_nil] at hl
            simp [F679, Fr.ofArgs, e1, e2, e3, e4, k1, k2, a1, a2, hz, hp0, n1, n1', n2, n2', bne]
            refine (lp679_0 T hP e (by have := he.2.2.2.2.2.2.2.2.1.1; exact this) he.2.2.2.2.2.2.2.2.1.2 (r := fun n => some (.d (I n), false)) (fun fr H n h hg => by simp [h, hg, fin_ret]) (by simp [gc, Fr.keep, reach, frRefs, heapRefs, PV.refs, place, gcH, orefs, Obj.refs, PV.ren, Obj.ren, Heap.obj, Fr.ren, gh, List.idxOf?_cons])).trans ?_
            by_cases g1 : legsE e.Legs.l = 0
            ·rw [if_pos g1]
             have lp := fun k fr H r hr h0 => @lp679_1 T (e.Legs.l.foldl insS []) (by omega) k r fr H hr h0
             simp [e6, g1]
             rw [lp _ _ _ (some (.d (I 15), false)) (fun fr H h hg => by simp [h, hg, fin_ret]) (by simp [gc, Fr.keep, reach, frRefs, heapRefs, PV.refs, gcH, PV.ren, Obj.ren, Heap.obj, Fr.ren, gh])]
             cases allZ (e.Legs.l.foldl insS []) with
             | true => simp
             | false => simp
            ·rw [if_neg g1]; simp [g1]
         have hz' : (e.Period == 0) = false := by simpa using hz
         cases hp : vday e.Period with
         | false => rw [hp] at e5; simp [F679, Fr.ofArgs, e1, e2, e3, e4, k1, k2, a1, a2, e5, hz', bne]
         | true =>
          rw [hp] at e5
          by_cases n1 : e.Legs.l.length < 2
          ·have n1' : (e.Legs.l.length : Int) < 2 := by omega
           simp [F679, Fr.ofArgs, e1, e2, e3, e4, k1, k2, a1, a2, e5, hz', n1, n1', bne]
          ·have n1' : ¬ (e.Legs.l.length : Int) < 2 := by omega
           by_cases n2 : 12 < e.Legs.l.length
           ·have n2' : (12 : Int) < e.Legs.l.length := by omega
            simp [F679, Fr.ofArgs, e1, e2, e3, e4, k1, k2, a1, a2, e5, hz', n1, n1', n2, n2', bne]
           ·have n2' : ¬ (12 : Int) < e.Legs.l.length := by omega
            have e6 := val771 T hP e.Legs.l e.Legs.t (by omega) (fun x hx => inK_w (he.2.2.2.2.2.2.2.2.1.2 x hx).2.1)
            have hl := insS_len e.Legs.l []
            simp only [List.length_nil] at hl
            simp [F679, Fr.ofArgs, e1, e2, e3, e4, k1, k2, a1, a2, e5, hz', n1, n1', n2, n2', bne]
            refine (lp679_0 T hP e (by have := he.2.2.2.2.2.2.2.2.1.1; exact this) he.2.2.2.2.2.2.2.2.1.2 (r := fun n => some (.d (I n), false)) (fun fr H n h hg => by simp [h, hg, fin_ret]) (by simp [gc, Fr.keep, reach, frRefs, heapRefs, PV.refs, place, gcH, orefs, Obj.refs, PV.ren, Obj.ren, Heap.obj, Fr.ren, gh, List.idxOf?_cons])).trans ?_
            by_cases g1 : legsE e.Legs.l = 0
            ·rw [if_pos g1]
             have lp := fun k fr H r hr h0 => @lp679_1 T (e.Legs.l.foldl insS []) (by omega) k r fr H hr h0
             simp [e6, g1]
             rw [lp _ _ _ (some (.d (I 15), false)) (fun fr H h hg => by simp [h, hg, fin_ret]) (by simp [gc, Fr.keep, reach, frRefs, heapRefs, PV.refs, gcH, PV.ren, Obj.ren, Heap.obj, Fr.ren, gh])]
             cases allZ (e.Legs.l.foldl insS []) with
             | true => simp
             | false => simp
            ·rw [if_neg g1]; simp [g1]
end Go.Sim
end
end
section
namespace Go.Sim
def tabS : PT :=
 (.bin 1105 F1105 (.bin 787 F787 (.bin 26 F26 (.bin 14 F14 (.bin 9 F9 .nil .nil) .nil) (.bin 776 F776 (.bin 727 F727 .nil .nil) .nil)) (.bin 866 F866 (.bin 862 F862 (.bin 806 F806 .nil .nil) .nil) (.bin 1104 F1104 (.bin 868 F868 .nil .nil) .nil))) (.bin 1113 F1113 (.bin 1109 F1109 (.bin 1108 F1108 (.bin 1107 F1107 .nil .nil) .nil) (.bin 1112 F1112 (.bin 1110 F1110 .nil .nil) .nil)) (.bin 1116 F1116 (.bin 1115 F1115 (.bin 1114 F1114 .nil .nil) .nil) (.bin 1118 F1118 (.bin 1117 F1117 .nil .nil) .nil))))
abbrev HS (T : Tab) : Prop := ∀ n F, tabS.get n = some F → T.F n = some F
end Go.Sim
end
section
open Go.Sim
attribute [local simp ↓] kC_skip kC_ret kC_exit kC_seq kC_block kC_reg kC_cond kC_condc sqK blK lpK kO_nil kO_O kO_E kO_OG kO_EG grd_b grd_t tst_b brn_true brn_false brn_not chk_T b_mov b_pick b_alloc b_box b_load b_store b_bin b_un b_eqv b_faddr b_field b_iaddr b_sl b_len b_app b_call b_call1 b_callR b_ext bo_some bo_none bo2_some bo2_none bo_iaddr bo_addS bo_quo bo_rem bo_bnd bo_bnd0 ld_q0 ld_qw ld_p subP0 subPw bo_moveP bo_moveQ bo_lenl bo_lens bo_lenr bo_add bo_sub bo_mul bo_eql bo_neq bo_lss bo_leq bo_gtr bo_geq bo_neg bo_not bo_eqS bo_neS grd_nb b_slS slSK_s extK_t ownL_l fin_ret fin_norm bo_res0 bo_rest bo_resc st_p stK_box b_callv callvK_f0 callvK_f1 mkf_b subPs ld_qs kC_regS0 kC_regS1 kC_regS2 kC_regS3 kC_regS4 kC_regS5 b_eqb eqbK_b b_agg0 b_bsl0 b_bsl1 app_l app_r appE_n appE_r bo_lenR b_mkif mkifK_d b_tas tasK_i b_mm2 bo_mm2
attribute [local simp] K_refl obj_0 obj_s get_c get_n drop_c drop_n set_c set_n fix_c fix_n rd IOp.adds nadds gh nid rgK rdS ghosts_c ghosts_n packed1 packed2 purT_b purT_i purT_s purT_a purT_lt purT_lf K_ss K_ns K_sn plains_n plains_c env_val env_ref purs_n purs_d put_0 put_s fits_i fits_b fits_s fits_l lt0_nat fits_a purT_t pur_dv frz_n purT_r purT_f
section
namespace Go.Sim
set_option maxRecDepth 10000
set_option maxHeartbeats 8000000
theorem lp14_0 (T : Tab) (z : List (ALeg × ALeg)) (s t : Bool) (hn : z.length ≤ maxLen) {k : KC (PV × Bool)} {r : Option (PV × Bool)} {fr : Fr} {H : Heap} (hr : RetF 4 k r) (h0 : gc [0, 1, 5] 0 ⟨fr, H⟩ = ⟨[(5, .d (I 0)), (1, .d (.l (K1 3) ((z.map Prod.snd).map ALeg.dv) t)), (0, .d (.l (K1 3) ((z.map Prod.fst).map ALeg.dv) s))], []⟩) :
  kC T.env 0 fr H (.h (.loop [0, 1, 5] L14_0, k)) = brn (z.all fun p => ALeg.beq p.1 p.2) (.h (k (.exit 0) [(14, .d (.b false)), (5, .d (I z.length)), (1, .d (.l (K1 3) ((z.map Prod.snd).map ALeg.dv) t)), (0, .d (.l (K1 3) ((z.map Prod.fst).map ALeg.dv) s))] [], r)) := by
 have hm := mxl
 rw [loop_rounds z (fun i _ => ⟨[(5, .d (I i)), (1, .d (.l (K1 3) ((z.map Prod.snd).map ALeg.dv) t)), (0, .d (.l (K1 3) ((z.map Prod.fst).map ALeg.dv) s))], []⟩) (fun _ _ => True) (fun i _ p c => if ALeg.beq p.1 p.2 = true then c () else r) (fun _ => k (.exit 0) [(14, .d (.b false)), (5, .d (I z.length)), (1, .d (.l (K1 3) ((z.map Prod.snd).map ALeg.dv) t)), (0, .d (.l (K1 3) ((z.map Prod.fst).map ALeg.dv) s))] []) ?_ ?_ h0 trivial]
 ·rw [rounds_all (fun p => ALeg.beq p.1 p.2) r]
  ·cases z.all fun p => ALeg.beq p.1 p.2 <;> rfl
  ·exact fun _ _ _ _ => rfl
 ·intro B _ _ _
  simp [L14_0]
 ·intro B _ i _ hi _ c hc
  have h1 : (i : Int) < z.length := by omega
  have h3 := wr1 (i := i) (by omega)
  have he : eqA [1, 1, 3] (.d (ALeg.dv z[i].1)) (.d (ALeg.dv z[i].2)) = some (ALeg.beq z[i].1 z[i].2) := by
   simp [eqA, eqL, eqK, ALeg.dv, ALeg.beq, ibq, sbq, Bool.and_assoc]
  simp [L14_0, h1, hi, he]
  repeat' (refine brn_split (fun h => ?_) (fun h => ?_) <;> (try simp at h) <;> (try simp [h, h3]))
  all_goals first
   | exact hr _ _ (by simp [Fr.get]) (by simp [ghosts, gh])
   | exact hc () _ _ trivial (by simp [gc, Fr.keep, reach, frRefs, heapRefs, PV.refs, gcH, PV.ren, Obj.ren, Heap.obj, Fr.ren, gh])
theorem val14 (T : Tab) (hF : T.F 14 = some F14) (x y : List ALeg) (s t : Bool) (hn : x.length ≤ maxLen) : T.val 14 [.l (K1 3) (x.map ALeg.dv) s, .l (K1 3) (y.map ALeg.dv) t] = some (.d (.b (lsb ALeg.beq x y)), false) := by
 rw [val_k T hF rfl]
 by_cases hl : x.length = y.length
 ·obtain ⟨z, rfl, rfl⟩ := zip_of x y hl
  rw [lsb_zip]
  have hz : z.length ≤ maxLen := by simpa using hn
  have lp := fun k fr H => @lp14_0 T z s t hz k (some (.d (.b false), false)) fr H
  simp [F14, Fr.ofArgs]
  rw [lp]
  ·refine brn_split (fun h => ?_) (fun h => ?_)
   ·simp [h]
   ·rw [h]
  ·simp [RetF_bl, RetF_sq, RetF_fin]
  ·simp [gc, Fr.keep, reach, frRefs, heapRefs, PV.refs, gcH, PV.ren, Obj.ren, Heap.obj, Fr.ren, gh]
 ·rw [lsb_len _ _ hl]
  have hl' : ((x.length : Int) == (y.length : Int)) = false := by simp; omega
  simp [F14, Fr.ofArgs, hl', bne]
end Go.Sim
end
section
namespace Go.Sim
set_option maxRecDepth 10000
set_option maxHeartbeats 4000000
open Go.Lib (decDigits itoa)
theorem ddS {u : Nat} (h : u < 10) : decDigits u = [UInt8.ofNat (48 + u)] := by rw [decDigits, dif_pos h]
theorem ddB {u : Nat} (h : ¬ u < 10) : decDigits u = decDigits (u / 10) ++ [UInt8.ofNat (48 + u % 10)] := by
 rw [decDigits, dif_neg h]
theorem ddL : ∀ (n u : Nat), u < 10 ^ n → (decDigits u).length ≤ n + 1
 | 0, u, h => by rw [ddS (by simp at h; omega)]; simp
 | n + 1, u, h => by
  by_cases hu : u < 10
  ·rw [ddS hu]; simp
  ·rw [ddB hu, List.length_append]
   have := ddL n (u / 10) (by rw [Nat.pow_succ] at h; omega)
   simp; omega
end Go.Sim
end
section
namespace Go.Sim
set_option maxRecDepth 10000
set_option maxHeartbeats 8000000
theorem scal_l (k : K) (es : List DV) (t : Bool) : PV.scal (.d (.l k es t)) = false := rfl
section
variable {R : Type} {E : Env} {fr : Fr} {H : Heap} {bf : List Nat} {acc : List (List Nat × List Nat)} {id : Nat} {j : KO R}
end
def AEntry.zero : AEntry := ⟨0, 0, 0, 0, 0, 0, [], [], ⟨[], true⟩, 0⟩
abbrev HIt (T : Tab) : Prop := ∀ ds, T.val 109 ds = itoaX ds
theorem itoa_ok {n : Int} (h1 : -9223372036854775808 ≤ n) (h2 : n ≤ 9223372036854775807) (T : Tab) (hIt : HIt T) : T.val 109 [I n] = some (.d (.s (itoaB n)), false) := by
 rw [hIt]; simp only [itoaX]; rw [if_pos ⟨h1, h2⟩]
theorem inK64 {n : Int} (h : inK .i64 n) : -9223372036854775808 ≤ n ∧ n ≤ 9223372036854775807 := by
 simp only [inK, Lit.wf, IntKind.min, IntKind.max, IntKind.signed, IntKind.bits, Bool.and_eq_true, decide_eq_true_eq, if_true] at h
 omega
theorem itoaB_len {n : Int} (h1 : -9223372036854775808 ≤ n) (h2 : n ≤ 9223372036854775807) : (itoaB n).length ≤ 100 := by
 rw [itoaB_eq h1 h2, Lib.itoa]
 split
 ·have := ddL 20 n.natAbs (by omega); simp; omega
 ·have := ddL 20 n.toNat (by omega); omega
end Go.Sim
end
section
namespace Go.Sim
set_option maxRecDepth 10000
set_option maxHeartbeats 4000000
open Go.Lib (decDigits itoa)
def tgt (p : APlan) (k : Int) : Int × Bool := if k = 1 then (p.FeeEarned, true) else if k = 2 then (p.Penalty, true) else if k = 3 then (p.LoanInterest, true) else if k = 4 then (p.Loans, true) else (0, k == 5)
def amtB (n : Int) : Bool := decide (0 ≤ n) && decide (n ≤ 1000000000000)
theorem val107 (T : Tab) (hP : HP T) (p : APlan) (k : Int) : T.val 107 [p.dv, I k] = some (.t [.d (I (tgt p k).1), .d (.b (tgt p k).2)], false) := by
 rw [val_k T (hP 107 F107 rfl) rfl]
 unfold tgt
 by_cases h1 : k = 1
 ·subst h1; simp [F107, Fr.ofArgs]
 ·have g1 : (k == 1) = false := by simpa using h1
  by_cases h2 : k = 2
  ·subst h2; simp [F107, Fr.ofArgs]
  ·have g2 : (k == 2) = false := by simpa using h2
   by_cases h3 : k = 3
   ·subst h3; simp [F107, Fr.ofArgs]
   ·have g3 : (k == 3) = false := by simpa using h3
    by_cases h4 : k = 4
    ·subst h4; simp [F107, Fr.ofArgs]
    ·have g4 : (k == 4) = false := by simpa using h4
     simp [F107, Fr.ofArgs, h1, h2, h3, h4, g1, g2, g3, g4]
theorem val1081 (T : Tab) (hP : HP T) (p : APlan) (k : Int) : T.val 1081 [p.dv, I k] = some (.t [.d (I (tgt p k).1), .d (.b (tgt p k).2)], false) := by
 rw [val_k T (hP 1081 F1081 rfl) rfl]
 unfold tgt
 by_cases h1 : k = 1
 ·subst h1; simp [F1081, Fr.ofArgs]
 ·have g1 : (k == 1) = false := by simpa using h1
  by_cases h2 : k = 2
  ·subst h2; simp [F1081, Fr.ofArgs]
  ·have g2 : (k == 2) = false := by simpa using h2
   by_cases h3 : k = 3
   ·subst h3; simp [F1081, Fr.ofArgs]
   ·have g3 : (k == 3) = false := by simpa using h3
    by_cases h4 : k = 4
    ·subst h4; simp [F1081, Fr.ofArgs]
    ·have g4 : (k == 4) = false := by simpa using h4
     simp [F1081, Fr.ofArgs, h1, h2, h3, h4, g1, g2, g3, g4]
theorem val108 (T : Tab) (hP : HP T) (n : Int) : T.val 108 [I n] = some (.d (.b (amtB n)), false) := by
 rw [val_k T (hP 108 F108 rfl) rfl]
 by_cases h1 : 0 ≤ n <;> by_cases h2 : n ≤ 1000000000000 <;> simp [F108, Fr.ofArgs, amtB, h1, h2]
theorem val1082 (T : Tab) (hP : HP T) (n : Int) : T.val 1082 [I n] = some (.d (.b (amtB n)), false) := by
 rw [val_k T (hP 1082 F1082 rfl) rfl]
 by_cases h1 : 0 ≤ n <;> by_cases h2 : n ≤ 1000000000000 <;> simp [F1082, Fr.ofArgs, amtB, h1, h2]
theorem itoa_nat (u : Nat) : itoa (u : Int) = decDigits u := by rw [itoa, if_neg (by omega)]; simp
theorem itoa_neg (u : Nat) (h : 0 < u) : itoa (-(u : Int)) = 45 :: decDigits u := by rw [itoa, if_pos (by omega)]; simp
theorem dig517 (T : Tab) (hP : HP T) (u : Nat) (hu : u < 10) : T.val 517 [I (u : Int)] = some (.d (.s (decDigits u)), false) := by
 rw [val_k T (hP 517 F517 rfl) rfl, ddS hu]
 have hu9 : u = 0 ∨ u = 1 ∨ u = 2 ∨ u = 3 ∨ u = 4 ∨ u = 5 ∨ u = 6 ∨ u = 7 ∨ u = 8 ∨ u = 9 := by omega
 have w : ∀ n : Int, 0 ≤ n → n ≤ 100 → IntKind.i64.wrap n = n := fun n h h' => wrI (by omega) (by omega)
 rcases hu9 with rfl | rfl | rfl | rfl | rfl | rfl | rfl | rfl | rfl | rfl <;> simp [F517, Fr.ofArgs, w]
theorem num517 (T : Tab) (hP : HP T) : ∀ (m : Nat) (n : Int), n.natAbs ≤ m → -9223372036854775808 ≤ n → n ≤ 9223372036854775807 → T.val 517 [I n] = some (.d (.s (itoa n)), false)
 | m, n, hm, a1, a2 => by
  by_cases h0 : n < 0
  ·obtain ⟨u, rfl⟩ : ∃ u : Nat, n = -(u : Int) := ⟨n.natAbs, by omega⟩
   have hu : 0 < u := by omega
   rw [val_k T (hP 517 F517 rfl) rfl, itoa_neg u hu]
   by_cases h1 : -10 < -(u : Int)
   ·have hw : IntKind.i64.wrap (u : Int) = u := wrI (by omega) (by omega)
    have hv := dig517 T hP u (by omega)
    have l1 := ddL 20 u (by omega)
    have g1 : (u : Int) < 10 := by omega
    have g2 : u < 10 := by omega
    have g3 : 1 + (decDigits u).length < 4611686018427387904 := by omega
    simp [F517, Fr.ofArgs, hu, h1, hw, hv, g3]
   ·have h2 : ¬ u < 10 := by omega
    have q1 : (-(u : Int)).tdiv 10 = -((u / 10 : Nat) : Int) := by rw [Int.neg_tdiv]; rfl
    have q2 : (-(u : Int)).tmod 10 = -((u % 10 : Nat) : Int) := by rw [Int.neg_tmod]; rfl
    have w1 : IntKind.i64.wrap (-((u / 10 : Nat) : Int)) = -((u / 10 : Nat) : Int) := wrI (by omega) (by omega)
    have w0 : IntKind.i64.wrap (-((u % 10 : Nat) : Int)) = -((u % 10 : Nat) : Int) := wrI (by omega) (by omega)
    have w2 : IntKind.i64.wrap ((u % 10 : Nat) : Int) = ((u % 10 : Nat) : Int) := wrI (by omega) (by omega)
    have v1 := num517 T hP (m - 1) (-((u / 10 : Nat) : Int)) (by omega) (by omega) (by omega)
    have v2 := num517 T hP (m - 1) ((u % 10 : Nat) : Int) (by omega) (by omega) (by omega)
    rw [itoa_neg _ (by omega)] at v1
    rw [itoa_nat] at v2
    have l1 := ddL 20 (u / 10) (by omega)
    have l2 := ddL 20 (u % 10) (by omega)
    have g1 : ¬ (u : Int) < 10 := by omega
    have hd : decDigits u = decDigits (u / 10) ++ decDigits (u % 10) := by rw [ddB h2, ddS (Nat.mod_lt u (by omega))]
    obtain ⟨a, ha⟩ : ∃ a, decDigits (u / 10) = a := ⟨_, rfl⟩
    obtain ⟨b, hb⟩ : ∃ a, decDigits (u % 10) = a := ⟨_, rfl⟩
    rw [hd]
    simp only [ha, hb] at v1 v2 l1 l2 ⊢
    obtain ⟨y, hy⟩ : ∃ y : Int, -((u / 10 : Nat) : Int) = y := ⟨_, rfl⟩
    obtain ⟨z, hz⟩ : ∃ z : Int, ((u % 10 : Nat) : Int) = z := ⟨_, rfl⟩
    simp only [hy, hz] at q1 q2 w1 w0 w2 v1 v2
    have g3 : a.length + 1 + b.length < 4611686018427387904 := by omega
    simp [F517, Fr.ofArgs, hu, h1, q1, q2, w1, w2, v1, v2, g3]
  ·obtain ⟨u, rfl⟩ : ∃ u : Nat, n = (u : Int) := ⟨n.toNat, by omega⟩
   rw [itoa_nat]
   by_cases h2 : u < 10
   ·exact dig517 T hP u h2
   ·rw [val_k T (hP 517 F517 rfl) rfl]
    have q1 : (u : Int).tdiv 10 = ((u / 10 : Nat) : Int) := rfl
    have q2 : (u : Int).tmod 10 = ((u % 10 : Nat) : Int) := rfl
    have w1 : IntKind.i64.wrap ((u / 10 : Nat) : Int) = ((u / 10 : Nat) : Int) := wrI (by omega) (by omega)
    have w2 : IntKind.i64.wrap ((u % 10 : Nat) : Int) = ((u % 10 : Nat) : Int) := wrI (by omega) (by omega)
    have v1 := num517 T hP (m - 1) ((u / 10 : Nat) : Int) (by omega) (by omega) (by omega)
    have v2 := num517 T hP (m - 1) ((u % 10 : Nat) : Int) (by omega) (by omega) (by omega)
    rw [itoa_nat] at v1 v2
    have l1 := ddL 20 (u / 10) (by omega)
    have l2 := ddL 20 (u % 10) (by omega)
    have g0 : ¬ (u : Int) < 0 := by omega
    have g1 : ¬ (u : Int) < 10 := by omega
    have hd : decDigits u = decDigits (u / 10) ++ decDigits (u % 10) := by rw [ddB h2, ddS (Nat.mod_lt u (by omega))]
    obtain ⟨a, ha⟩ : ∃ a, decDigits (u / 10) = a := ⟨_, rfl⟩
    obtain ⟨b, hb⟩ : ∃ a, decDigits (u % 10) = a := ⟨_, rfl⟩
    rw [hd]
    simp only [ha, hb] at v1 v2 l1 l2 ⊢
    obtain ⟨y, hy⟩ : ∃ y : Int, ((u / 10 : Nat) : Int) = y := ⟨_, rfl⟩
    obtain ⟨z, hz⟩ : ∃ z : Int, ((u % 10 : Nat) : Int) = z := ⟨_, rfl⟩
    simp only [hy, hz] at q1 q2 w1 w2 v1 v2
    have g3 : a.length + b.length < 4611686018427387904 := by omega
    simp [F517, Fr.ofArgs, g0, g1, q1, q2, w1, v1, v2, g3]
 termination_by m _ _hm => m
 decreasing_by all_goals omega
theorem val517 (T : Tab) (hP : HP T) (n : Int) (h1 : -9223372036854775808 ≤ n) (h2 : n ≤ 9223372036854775807) : T.val 517 [I n] = some (.d (.s (itoaB n)), false) := by
 rw [itoaB_eq h1 h2]
 exact num517 T hP n.natAbs n (Nat.le_refl _) h1 h2
end Go.Sim
end
section
namespace Go.Sim
set_option maxRecDepth 10000
set_option maxHeartbeats 8000000
def okP (p : APlan) (x : APart) : Bool := (tgt p x.Kind).2 && amtB x.Amount
def stepP (p : APlan) (cur : List UInt8) (s : Int × List ALeg) (x : APart) : Int × List ALeg := if x.Kind = 5 then s else (w64 (s.1 + x.Amount), s.2 ++ [⟨(tgt p x.Kind).1, w64 (-x.Amount), cur⟩])
def paidF (p : APlan) (cur : List UInt8) : Int × List ALeg → List APart → Option (Int × List ALeg)
 | s, [] => some s
 | s, x :: r => if okP p x = true then paidF p cur (stepP p cur s x) r else none
theorem rounds_paid {R : Type} (p : APlan) (cur : List UInt8) (r : Option R) (done : Int × List ALeg → Option R) (step : Nat → Int × List ALeg → APart → (Int × List ALeg → Option R) → Option R) (hs : ∀ i b x c, step i b x c = if okP p x = true then c (stepP p cur b x) else r) : ∀ (i : Nat) (b : Int × List ALeg) (ls : List APart), rounds step done i b ls = match paidF p cur b ls with | some s => done s | none => r
 | i, b, [] => rfl
 | i, b, x :: l => by
  rw [rounds, hs, paidF]
  by_cases h : okP p x = true
  ·rw [if_pos h, if_pos h, rounds_paid p cur r done step hs (i + 1)]
  ·rw [if_neg h, if_neg h]
theorem AEntry.zdv : DV.a [I 0, I 0, I 0, I 0, I 0, I 0, .s [], .s [], .l (K1 3) [] true, .i .u64 0] = AEntry.zero.dv := rfl
def st89 (b : ABank) (a : ALoan) (parts : List APart) (t : Bool) (from0 day : Int) (key : List UInt8) (i : Int) (s : Int × List ALeg) : St := match s.2 with
 | [] => ⟨[(27, .d (I i)), (26, .d (I parts.length)), (25, .d (.l (K1 2) (parts.map APart.dv) t)), (15, .d (.l (K1 3) [] true)), (14, .d (I s.1)), (12, .p 0 0 0), (7, .p 1 0 0), (6, .p 2 0 0), (5, .d (.s key)), (4, .d (I day)), (3, .d (I from0))], [some (.box (K1 10) (.d AEntry.zero.dv)), some (.box (K1 25) (.d a.dv)), some (.box (K1 42) (.d b.dv))]⟩
 | _ :: g => ⟨[(27, .d (I i)), (26, .d (I parts.length)), (25, .d (.l (K1 2) (parts.map APart.dv) t)), (15, .r 0 (K1 3) 0 (g.length + 1) false), (14, .d (I s.1)), (12, .p 1 0 0), (7, .p 2 0 0), (6, .p 3 0 0), (5, .d (.s key)), (4, .d (I day)), (3, .d (I from0))], [some (.sl (K1 3) 0 (s.2.map ALeg.dv)), some (.box (K1 10) (.d AEntry.zero.dv)), some (.box (K1 25) (.d a.dv)), some (.box (K1 42) (.d b.dv))]⟩
theorem lp89 (T : Tab) (hP : HP T) (b : ABank) (a : ALoan) (parts : List APart) (t : Bool) (from0 day : Int) (key : List UInt8) (hn : parts.length ≤ 20) {k : KC (PV × Bool)} {r : Option (PV × Bool)} {fr : Fr} {H : Heap}
  (hr : ∀ fr H o, fr.get 13 = .d (I 1) → fr.get 12 = .p o 0 0 → H.obj o = some (.box (K1 10) (.d AEntry.zero.dv)) → ghosts fr = [] → k .ret fr H = r)
  (h0 : gc [3, 4, 5, 6, 7, 12, 14, 15, 25, 26, 27] 0 ⟨fr, H⟩ = st89 b a parts t from0 day key 0 (0, [])) :
  kC T.env 0 fr H (.h (.loop [3, 4, 5, 6, 7, 12, 14, 15, 25, 26, 27] L89_0, k)) = match paidF b.Books.Plan a.Terms.Currency (0, []) parts with
   | some s => if s.2.length ≤ parts.length then k (.exit 0) ((28, .d (.b false)) :: (st89 b a parts t from0 day key parts.length s).fr) (st89 b a parts t from0 day key parts.length s).H else none
   | none => r := by
 rw [loop_rounds parts (fun i s => st89 b a parts t from0 day key i s) (fun i s => s.2.length ≤ i) (fun _ s x c => if okP b.Books.Plan x = true then c (stepP b.Books.Plan a.Terms.Currency s x) else r) (fun s => if s.2.length ≤ parts.length then k (.exit 0) ((28, .d (.b false)) :: (st89 b a parts t from0 day key parts.length s).fr) (st89 b a parts t from0 day key parts.length s).H else none) ?_ ?_ h0 (Nat.le_refl _)]
 ·exact rounds_paid _ _ r _ _ (fun _ _ _ _ => rfl) 0 _ _
 ·rintro B _ ⟨s, g⟩ hg
  simp only at hg ⊢
  rw [if_pos hg]
  cases g with
  | nil => simp [L89_0, st89]
  | cons y g => simp [L89_0, st89]
 ·rintro B _ i ⟨s, g⟩ hi hg c hc
  simp only at hg hc ⊢
  have h1 : (i : Int) < parts.length := by omega
  have h3 := wr1 (i := i) (by omega)
  have e1 := val107 T hP b.Books.Plan parts[i].Kind
  have e2 := val108 T hP parts[i].Amount
  have hl2 : (stepP b.Books.Plan a.Terms.Currency (s, g) parts[i]).2.length ≤ i + 1 := by
   unfold stepP
   split
   ·show g.length ≤ i + 1; omega
   ·simp; omega
  have hc' := fun fr H => hc (stepP b.Books.Plan a.Terms.Currency (s, g) parts[i]) fr H hl2
  clear hc
  unfold okP
  cases q1 : (tgt b.Books.Plan parts[i].Kind).2 with
  | false =>
   rw [q1] at e1
   cases g with
   | nil =>
    simp [L89_0, st89, h1, hi, e1, AEntry.zdv]
    exact hr _ _ _ (by simp [Fr.get]) (by simp [Fr.get]; rfl) (by simp [Heap.obj]) (by simp [ghosts, gh])
   | cons y g =>
    simp [L89_0, st89, h1, hi, e1, AEntry.zdv]
    exact hr _ _ _ (by simp [Fr.get]) (by simp [Fr.get]; rfl) (by simp [Heap.obj]) (by simp [ghosts, gh])
  | true =>
   rw [q1] at e1
   cases q2 : amtB parts[i].Amount with
   | false =>
    rw [q2] at e2
    cases g with
    | nil =>
     simp [L89_0, st89, h1, hi, e1, e2, AEntry.zdv]
     exact hr _ _ _ (by simp [Fr.get]) (by simp [Fr.get]; rfl) (by simp [Heap.obj]) (by simp [ghosts, gh])
    | cons y g =>
     simp [L89_0, st89, h1, hi, e1, e2, AEntry.zdv]
     exact hr _ _ _ (by simp [Fr.get]) (by simp [Fr.get]; rfl) (by simp [Heap.obj]) (by simp [ghosts, gh])
   | true =>
    rw [q2] at e2
    by_cases q3 : parts[i].Kind = 5
    ·have hs : stepP b.Books.Plan a.Terms.Currency (s, g) parts[i] = (s, g) := if_pos q3
     rw [hs] at hc' ⊢
     rw [q3] at e1
     cases g with
     | nil =>
      simp [L89_0, st89, h1, hi, h3, q3, e1, e2, bne]
      exact hc' _ _ (by simp [gc, Fr.keep, reach, frRefs, heapRefs, PV.refs, place, gcH, orefs, Obj.refs, PV.ren, Obj.ren, Heap.obj, Fr.ren, gh, List.idxOf?_cons, st89])
     | cons y g =>
      simp [L89_0, st89, h1, hi, h3, q3, e1, e2, bne]
      exact hc' _ _ (by simp [gc, Fr.keep, reach, frRefs, heapRefs, PV.refs, place, gcH, orefs, Obj.refs, PV.ren, Obj.ren, Heap.obj, Fr.ren, gh, List.idxOf?_cons, st89])
    ·have q4 : (parts[i].Kind == 5) = false := by simpa using q3
     have hs : stepP b.Books.Plan a.Terms.Currency (s, g) parts[i] = (w64 (s + parts[i].Amount), g ++ [⟨(tgt b.Books.Plan parts[i].Kind).1, w64 (-parts[i].Amount), a.Terms.Currency⟩]) := if_neg q3
     rw [hs] at hc' ⊢
     obtain ⟨z, hz⟩ : ∃ z, (tgt b.Books.Plan parts[i].Kind).1 = z := ⟨_, rfl⟩
     rw [hz] at e1 hc' ⊢
     cases g with
     | nil =>
      simp [L89_0, st89, h1, hi, h3, q4, e1, e2, bne, b_agg, agg_n, agg_c, cells_s, cells_i, putAt, mkA, size_n, List.drop_succ_cons, List.drop_zero, List.take_succ_cons, List.take_zero, List.cons_append, List.nil_append]
      exact hc' _ _ (by simp [gc, Fr.keep, reach, frRefs, heapRefs, PV.refs, place, gcH, orefs, Obj.refs, PV.ren, Obj.ren, Heap.obj, Fr.ren, gh, List.idxOf?_cons, st89, ALeg.dv, w64])
     | cons y g =>
      have g5 : (g.length + 1 + 1) * 32 ≤ 140737488355328 := by simp at hg; omega
      have ht : (g.map ALeg.dv).take g.length = g.map ALeg.dv := List.take_of_length_le (by simp)
      simp [L89_0, st89, h1, hi, h3, q4, e1, e2, bne, g5, ht, ↓appE_rf, b_agg, agg_n, agg_c, cells_s, cells_i, putAt, mkA, size_n, List.drop_succ_cons, List.drop_zero, List.take_succ_cons, List.take_zero, List.cons_append, List.nil_append]
      exact hc' _ _ (by simp [gc, Fr.keep, reach, frRefs, heapRefs, PV.refs, place, gcH, orefs, Obj.refs, PV.ren, Obj.ren, Heap.obj, Fr.ren, gh, List.idxOf?_cons, st89, ALeg.dv, w64])
end Go.Sim
end
section
namespace Go.Sim
set_option maxRecDepth 10000
set_option maxHeartbeats 8000000
attribute [local simp ↓ 2000] kD_app2
def st1080 (b : ABank) (a : ALoan) (parts : List APart) (t : Bool) (from0 day : Int) (key : List UInt8) (i : Int) (s : Int × List ALeg) : St := match s.2 with
 | [] => ⟨[(16, .d (I i)), (15, .d (.l (K1 3) [] true)), (14, .d (I s.1)), (12, .p 0 0 0), (7, .p 1 0 0), (6, .p 2 0 0), (5, .d (.s key)), (4, .d (I day)), (3, .d (I from0)), (2, .d (.l (K1 2) (parts.map APart.dv) t))], [some (.box (K1 10) (.d AEntry.zero.dv)), some (.box (K1 25) (.d a.dv)), some (.box (K1 42) (.d b.dv))]⟩
 | _ :: g => ⟨[(16, .d (I i)), (15, .r 0 (K1 3) 0 (g.length + 1) false), (14, .d (I s.1)), (12, .p 1 0 0), (7, .p 2 0 0), (6, .p 3 0 0), (5, .d (.s key)), (4, .d (I day)), (3, .d (I from0)), (2, .d (.l (K1 2) (parts.map APart.dv) t))], [some (.sl (K1 3) 0 (s.2.map ALeg.dv)), some (.box (K1 10) (.d AEntry.zero.dv)), some (.box (K1 25) (.d a.dv)), some (.box (K1 42) (.d b.dv))]⟩
theorem lp1080 (T : Tab) (hP : HP T) (b : ABank) (a : ALoan) (parts : List APart) (t : Bool) (from0 day : Int) (key : List UInt8) (hn : parts.length ≤ 20) {k : KC (PV × Bool)} {r : Option (PV × Bool)} {fr : Fr} {H : Heap}
  (hr : ∀ fr H o, fr.get 13 = .d (I 1) → fr.get 12 = .p o 0 0 → H.obj o = some (.box (K1 10) (.d AEntry.zero.dv)) → ghosts fr = [] → k .ret fr H = r)
  (h0 : gc [2, 3, 4, 5, 6, 7, 12, 14, 15, 16] 0 ⟨fr, H⟩ = st1080 b a parts t from0 day key 0 (0, [])) :
  kC T.env 0 fr H (.h (.loop [2, 3, 4, 5, 6, 7, 12, 14, 15, 16] L1080_0, k)) = match paidF b.Books.Plan a.Terms.Currency (0, []) parts with
   | some s => if s.2.length ≤ parts.length then k (.exit 0) ((27, .d (.b false)) :: (st1080 b a parts t from0 day key parts.length s).fr) (st1080 b a parts t from0 day key parts.length s).H else none
   | none => r := by
 rw [loop_rounds parts (fun i s => st1080 b a parts t from0 day key i s) (fun i s => s.2.length ≤ i) (fun _ s x c => if okP b.Books.Plan x = true then c (stepP b.Books.Plan a.Terms.Currency s x) else r) (fun s => if s.2.length ≤ parts.length then k (.exit 0) ((27, .d (.b false)) :: (st1080 b a parts t from0 day key parts.length s).fr) (st1080 b a parts t from0 day key parts.length s).H else none) ?_ ?_ h0 (Nat.le_refl _)]
 ·exact rounds_paid _ _ r _ _ (fun _ _ _ _ => rfl) 0 _ _
 ·rintro B _ ⟨s, g⟩ hg
  simp only at hg ⊢
  rw [if_pos hg]
  cases g with
  | nil => simp [L1080_0, st1080]
  | cons y g => simp [L1080_0, st1080]
 ·rintro B _ i ⟨s, g⟩ hi hg c hc
  simp only at hg hc ⊢
  have h1 : (i : Int) < parts.length := by omega
  have h3 := wr1 (i := i) (by omega)
  have e1 := val1081 T hP b.Books.Plan parts[i].Kind
  have e2 := val1082 T hP parts[i].Amount
  have hl2 : (stepP b.Books.Plan a.Terms.Currency (s, g) parts[i]).2.length ≤ i + 1 := by
   unfold stepP
   split
   ·show g.length ≤ i + 1; omega
   ·simp; omega
  have hc' := fun fr H => hc (stepP b.Books.Plan a.Terms.Currency (s, g) parts[i]) fr H hl2
  clear hc
  unfold okP
  cases q1 : (tgt b.Books.Plan parts[i].Kind).2 with
  | false =>
   rw [q1] at e1
   cases g with
   | nil =>
    simp [L1080_0, st1080, ↓kC_regD, ↓kDq_nil, ↓kDq_O, ↓aftD_go, nfp_go, ↓d_mov, ↓d_load, ↓d_faddr, ↓d_iaddr, ↓d_ext, ↓d_call0, accD, writeS, touchS, footD, storeD, chg, roOf, runs, pairsD, disj, PV.refs, IOp.okD, Nat.testBit, h1, hi, e1, AEntry.zdv]
    exact hr _ _ _ (by simp [Fr.get]) (by simp [Fr.get]; rfl) (by simp [Heap.obj]) (by simp [ghosts, gh])
   | cons y g =>
    simp [L1080_0, st1080, ↓kC_regD, ↓kDq_nil, ↓kDq_O, ↓aftD_go, nfp_go, ↓d_mov, ↓d_load, ↓d_faddr, ↓d_iaddr, ↓d_ext, ↓d_call0, accD, writeS, touchS, footD, storeD, chg, roOf, runs, pairsD, disj, PV.refs, IOp.okD, Nat.testBit, h1, hi, e1, AEntry.zdv]
    exact hr _ _ _ (by simp [Fr.get]) (by simp [Fr.get]; rfl) (by simp [Heap.obj]) (by simp [ghosts, gh])
  | true =>
   rw [q1] at e1
   cases q2 : amtB parts[i].Amount with
   | false =>
    rw [q2] at e2
    cases g with
    | nil =>
     simp [L1080_0, st1080, ↓kC_regD, ↓kDq_nil, ↓kDq_O, ↓aftD_go, nfp_go, ↓d_mov, ↓d_load, ↓d_faddr, ↓d_iaddr, ↓d_ext, ↓d_call0, accD, writeS, touchS, footD, storeD, chg, roOf, runs, pairsD, disj, PV.refs, IOp.okD, Nat.testBit, h1, hi, e1, e2, AEntry.zdv]
     exact hr _ _ _ (by simp [Fr.get]) (by simp [Fr.get]; rfl) (by simp [Heap.obj]) (by simp [ghosts, gh])
    | cons y g =>
     simp [L1080_0, st1080, ↓kC_regD, ↓kDq_nil, ↓kDq_O, ↓aftD_go, nfp_go, ↓d_mov, ↓d_load, ↓d_faddr, ↓d_iaddr, ↓d_ext, ↓d_call0, accD, writeS, touchS, footD, storeD, chg, roOf, runs, pairsD, disj, PV.refs, IOp.okD, Nat.testBit, h1, hi, e1, e2, AEntry.zdv]
     exact hr _ _ _ (by simp [Fr.get]) (by simp [Fr.get]; rfl) (by simp [Heap.obj]) (by simp [ghosts, gh])
   | true =>
    rw [q2] at e2
    by_cases q3 : parts[i].Kind = 5
    ·have hs : stepP b.Books.Plan a.Terms.Currency (s, g) parts[i] = (s, g) := if_pos q3
     rw [hs] at hc' ⊢
     rw [q3] at e1
     cases g with
     | nil =>
      simp [L1080_0, st1080, ↓kC_regD, ↓kDq_nil, ↓kDq_O, ↓aftD_go, nfp_go, ↓d_mov, ↓d_load, ↓d_faddr, ↓d_iaddr, ↓d_ext, ↓d_call0, accD, writeS, touchS, footD, storeD, chg, roOf, runs, pairsD, disj, PV.refs, IOp.okD, Nat.testBit, h1, hi, h3, q3, e1, e2, bne]
      exact hc' _ _ (by simp [gc, Fr.keep, reach, frRefs, heapRefs, PV.refs, place, gcH, orefs, Obj.refs, PV.ren, Obj.ren, Heap.obj, Fr.ren, gh, List.idxOf?_cons, st1080])
     | cons y g =>
      simp [L1080_0, st1080, ↓kC_regD, ↓kDq_nil, ↓kDq_O, ↓aftD_go, nfp_go, ↓d_mov, ↓d_load, ↓d_faddr, ↓d_iaddr, ↓d_ext, ↓d_call0, accD, writeS, touchS, footD, storeD, chg, roOf, runs, pairsD, disj, PV.refs, IOp.okD, Nat.testBit, h1, hi, h3, q3, e1, e2, bne]
      exact hc' _ _ (by simp [gc, Fr.keep, reach, frRefs, heapRefs, PV.refs, place, gcH, orefs, Obj.refs, PV.ren, Obj.ren, Heap.obj, Fr.ren, gh, List.idxOf?_cons, st1080])
    ·have q4 : (parts[i].Kind == 5) = false := by simpa using q3
     have hs : stepP b.Books.Plan a.Terms.Currency (s, g) parts[i] = (w64 (s + parts[i].Amount), g ++ [⟨(tgt b.Books.Plan parts[i].Kind).1, w64 (-parts[i].Amount), a.Terms.Currency⟩]) := if_neg q3
     rw [hs] at hc' ⊢
     obtain ⟨z, hz⟩ : ∃ z, (tgt b.Books.Plan parts[i].Kind).1 = z := ⟨_, rfl⟩
     rw [hz] at e1 hc' ⊢
     cases g with
     | nil =>
      simp [L1080_0, st1080, ↓kC_regD, ↓kDq_nil, ↓kDq_O, ↓aftD_go, nfp_go, ↓d_mov, ↓d_agg, ↓d_bsl, ↓d_load, ↓d_un, ↓d_faddr, ↓d_iaddr, ↓d_ext, ↓d_call0, accD, writeS, touchS, footD, storeD, chg, roOf, runs, pairsD, disj, PV.refs, IOp.okD, Nat.testBit, h1, hi, h3, q4, e1, e2, bne, b_agg, agg_n, agg_c, cells_s, cells_i, putAt, mkA, size_n, List.drop_succ_cons, List.drop_zero, List.take_succ_cons, List.take_zero, List.cons_append, List.nil_append, allB]
      exact hc' _ _ (by simp [gc, Fr.keep, reach, frRefs, heapRefs, PV.refs, place, gcH, orefs, Obj.refs, PV.ren, Obj.ren, Heap.obj, Fr.ren, gh, List.idxOf?_cons, st1080, ALeg.dv, w64])
     | cons y g =>
      have g5 : (g.length + 1 + 1) * 32 ≤ 140737488355328 := by simp at hg; omega
      have ht : (g.map ALeg.dv).take g.length = g.map ALeg.dv := List.take_of_length_le (by simp)
      simp [L1080_0, st1080, ↓kC_regD, ↓kDq_nil, ↓kDq_O, ↓aftD_go, nfp_go, ↓d_mov, ↓d_agg, ↓d_bsl, ↓d_load, ↓d_un, ↓d_faddr, ↓d_iaddr, ↓d_ext, ↓d_call0, accD, writeS, touchS, footD, storeD, chg, roOf, runs, pairsD, disj, PV.refs, IOp.okD, Nat.testBit, h1, hi, h3, q4, e1, e2, bne, g5, ht, ↓appE_rf, b_agg, agg_n, agg_c, cells_s, cells_i, putAt, mkA, size_n, List.drop_succ_cons, List.drop_zero, List.take_succ_cons, List.take_zero, List.cons_append, List.nil_append, allB]
      exact hc' _ _ (by simp [gc, Fr.keep, reach, frRefs, heapRefs, PV.refs, place, gcH, orefs, Obj.refs, PV.ren, Obj.ren, Heap.obj, Fr.ren, gh, List.idxOf?_cons, st1080, ALeg.dv, w64])
end Go.Sim
end
section
namespace Go.Sim
set_option maxRecDepth 10000
set_option maxHeartbeats 4000000
theorem inK_of {n : Int} (h1 : -9223372036854775808 ≤ n) (h2 : n ≤ 9223372036854775807) : inK .i64 n := by
 simp only [inK, Lit.wf, IntKind.min, IntKind.max, IntKind.signed, IntKind.bits, Bool.and_eq_true, decide_eq_true_eq, if_true]
 omega
theorem inK_w64 (n : Int) : inK .i64 (w64 n) := by
 have : -9223372036854775808 ≤ w64 n ∧ w64 n ≤ 9223372036854775807 := by unfold w64; rw [IntKind.wrap_i64]; omega
 exact inK_of this.1 this.2
theorem insG_ok : ∀ {g : List ALeg} {x : ALeg}, (∀ y ∈ g, y.ok) → x.ok → ∀ y ∈ insG g x, y.ok
 | [], x, _, hx, y, h => by simp [insG] at h; subst h; exact hx
 | z :: r, x, hg, hx, y, h => by
  unfold insG at h
  have hz := hg z (List.mem_cons_self ..)
  have hr := fun y hy => hg y (List.mem_cons_of_mem _ hy)
  split at h
  ·rcases List.mem_cons.1 h with rfl | h
   ·exact hz
   ·exact insG_ok hr hx y h
  ·split at h
   ·rcases List.mem_cons.1 h with rfl | h
    ·exact hx
    ·exact hg y h
   ·rcases List.mem_cons.1 h with rfl | h
    ·exact ⟨hz.1, inK_w64 _, hz.2.2⟩
    ·exact hr y h
theorem foldG_ok : ∀ (l g : List ALeg), (∀ y ∈ l, y.ok) → (∀ y ∈ g, y.ok) → ∀ y ∈ l.foldl insG g, y.ok
 | [], _, _, hg => hg
 | x :: l, g, hl, hg => by
  rw [List.foldl_cons]
  exact foldG_ok l _ (fun y hy => hl y (List.mem_cons_of_mem _ hy)) (insG_ok hg (hl x (List.mem_cons_self ..)))
theorem netL_ok {l : List ALeg} (hl : ∀ y ∈ l, y.ok) : ∀ y ∈ netL l, y.ok := fun y hy => foldG_ok l [] hl (fun _ h => by cases h) y (List.mem_filter.1 hy).1
theorem netL_len (l : List ALeg) : (netL l).length ≤ l.length := Nat.le_trans (List.length_filter_le _ _) (by have := foldG_len l []; simpa using this)
theorem tgt_in {p : APlan} (hp : p.ok) (k : Int) : inK .i64 (tgt p k).1 := by
 unfold tgt
 split
 ·exact hp.2.2.2.2.1
 ·split
  ·exact hp.2.2.2.2.2.2.2.2.2.1
  ·split
   ·exact hp.2.2.2.2.2.2.2.2.1
   ·split
    ·exact hp.2.2.2.2.2.2.2.1
    ·show inK .i64 0; exact inK_of (by decide) (by decide)
theorem paidF_ok {p : APlan} (hp : p.ok) {cur : List UInt8} (hc : cur.length ≤ maxLen) : ∀ (l : List APart) (s z : Int × List ALeg), paidF p cur s l = some z → inK .i64 s.1 → (∀ y ∈ s.2, y.ok) → inK .i64 z.1 ∧ (∀ y ∈ z.2, y.ok) ∧ z.2.length ≤ s.2.length + l.length
 | [], s, z, h, h1, h2 => by cases h; exact ⟨h1, h2, by simp⟩
 | x :: l, s, z, h, h1, h2 => by
  rw [paidF] at h
  split at h
  ·have hs : inK .i64 (stepP p cur s x).1 ∧ (∀ y ∈ (stepP p cur s x).2, y.ok) ∧ (stepP p cur s x).2.length ≤ s.2.length + 1 := by
    unfold stepP
    split
    ·exact ⟨h1, h2, by omega⟩
    ·refine ⟨inK_w64 _, fun y hy => ?_, by simp⟩
     rcases List.mem_append.1 hy with hy | hy
     ·exact h2 y hy
     ·rcases List.mem_cons.1 hy with rfl | hy
      ·exact ⟨tgt_in hp _, inK_w64 _, hc⟩
      ·cases hy
   have := paidF_ok hp hc l _ z h hs.1 hs.2.1
   refine ⟨this.1, this.2.1, ?_⟩
   have h3 := this.2.2
   simp only [List.length_cons]
   omega
  ·cases h
def loanT : List UInt8 := [108, 111, 97, 110, 32]
def payE (a : ALoan) (from0 day : Int) (key : List UInt8) (s : Int × List ALeg) : AEntry := ⟨0, day, day, 8, 0, 0, key, loanT ++ itoaB a.Id, ⟨netL (s.2 ++ [⟨from0, s.1, a.Terms.Currency⟩]), false⟩, 0⟩
def paidN (b : ABank) (a : ALoan) (parts : List APart) (from0 day : Int) (key : List UInt8) : AEntry × Int :=
 if 12 < parts.length then (.zero, 1) else match paidF b.Books.Plan a.Terms.Currency (0, []) parts with
 | none => (.zero, 1)
 | some s => if chkE (payE a from0 day key s) = 0 then (payE a from0 day key s, 0) else (.zero, 1)
theorem payE_ok {b : ABank} (hb : b.ok) {a : ALoan} (ha : a.ok) {parts : List APart} (hn : parts.length ≤ 12) {from0 day : Int} (hf : inK .i64 from0) (hd : inK .i64 day) {key : List UInt8} (hk : key.length ≤ maxLen) {s : Int × List ALeg} (hs : paidF b.Books.Plan a.Terms.Currency (0, []) parts = some s) :
  (payE a from0 day key s).ok ∧ s.2.length ≤ parts.length := by
 have hm := mxl
 have hcur : a.Terms.Currency.length ≤ maxLen := ha.2.2.2.2.2.2.2.2.2.2.2.1.2.2.2.2.2.2.2.2.2.2.2
 have hp := paidF_ok hb.2.2.2.1.2.2.2.1 hcur parts (0, []) s hs (inK_of (by decide) (by decide)) (fun _ h => by cases h)
 simp only [List.length_nil, Nat.zero_add] at hp
 have hl : s.2.length ≤ 12 := by omega
 have r := inK64 ha.1
 have hid := itoaB_len r.1 r.2
 have z0 : inK .i64 0 := inK_of (by decide) (by decide)
 have z8 : inK .i64 8 := inK_of (by decide) (by decide)
 have ok2 : ∀ y ∈ s.2 ++ [⟨from0, s.1, a.Terms.Currency⟩], ALeg.ok y := fun y hy => by
  rcases List.mem_append.1 hy with hy | hy
  ·exact hp.2.1 y hy
  ·rcases List.mem_cons.1 hy with rfl | hy
   ·exact ⟨hf, hp.1, hcur⟩
   ·cases hy
 have ln := netL_len (s.2 ++ [⟨from0, s.1, a.Terms.Currency⟩])
 refine ⟨⟨z0, hd, hd, z8, z0, z0, hk, ?_, ⟨?_, netL_ok ok2⟩, ?_⟩, hp.2.2⟩
 ·show (loanT ++ itoaB a.Id).length ≤ maxLen
  simp only [List.length_append, loanT, List.length_cons, List.length_nil]
  omega
 ·show (netL (s.2 ++ [⟨from0, s.1, a.Terms.Currency⟩])).length ≤ maxLen
  simp only [List.length_append, List.length_cons, List.length_nil] at ln
  omega
 ·simp [payE, inK, Lit.wf, IntKind.min, IntKind.max, IntKind.signed, IntKind.bits]
end Go.Sim
end
section
namespace Go.Sim
set_option maxRecDepth 10000
set_option maxHeartbeats 8000000
theorem val89 (T : Tab) (hN : HN T) (hP : HP T) (hI : HI T) (hI2 : HI2 T) (hIt : HIt T) (b : ABank) (hb : b.ok) (a : ALoan) (ha : a.ok) (parts : List APart) (t : Bool) (from0 day : Int) (key : List UInt8) (hn : parts.length ≤ 20) (hf : inK .i64 from0) (hd : inK .i64 day) (hk : key.length ≤ maxLen) :
  T.val 89 [b.dv, a.dv, .l (K1 2) (parts.map APart.dv) t, I from0, I day, .s key] = some (.t [.d (paidN b a parts from0 day key).1.dv, .d (I (paidN b a parts from0 day key).2)], false) := by
 rw [val_k T (hP 89 F89 rfl) rfl]
 unfold paidN
 by_cases hn2 : 12 < parts.length
 ·have g1 : (12 : Int) < parts.length := by omega
  simp [F89, Fr.ofArgs, hn2, g1, purs, pur, purC, AEntry.zdv]
 ·have g1 : ¬ (12 : Int) < parts.length := by omega
  have lp := fun k r hr fr H h0 => @lp89 T hP b a parts t from0 day key hn k r fr H hr h0
  cases hs : paidF b.Books.Plan a.Terms.Currency (0, []) parts with
  | none =>
   rw [hs] at lp
   simp [F89, Fr.ofArgs, hn2, g1]
   refine lp _ (some (.t [.d AEntry.zero.dv, .d (I 1)], false)) (fun fr H o h1 h2 h3 h4 => ?_) _ _ (by simp [st89, AEntry.zdv, gc, Fr.keep, reach, frRefs, heapRefs, PV.refs, place, gcH, orefs, Obj.refs, PV.ren, Obj.ren, Heap.obj, Fr.ren, gh, List.idxOf?_cons])
   simp [h1, h2, h3, h4, fin_ret]
  | some s =>
   obtain ⟨hok, hl⟩ := payE_ok hb ha (parts := parts) (by omega) hf hd hk hs
   rw [hs] at lp
   simp only [if_pos hl] at lp
   obtain ⟨sm, g⟩ := s
   have r := inK64 ha.1
   have ei := itoa_ok r.1 r.2 T hIt
   have li := itoaB_len r.1 r.2
   have gi : 5 + (itoaB a.Id).length < 4611686018427387904 := by omega
   have en := val110 T hN hI (g ++ [⟨from0, sm, a.Terms.Currency⟩]) false (by simp at hl ⊢; omega)
   have ec := val111 T hN hP hI2 (payE a from0 day key (sm, g)) hok
   have hz : ∀ x y c, ALeg.dv ⟨x, y, c⟩ = DV.a [I x, I y, .s c] := fun _ _ _ => rfl
   obtain ⟨ch, hch⟩ : ∃ z, chkE (payE a from0 day key (sm, g)) = z := ⟨_, rfl⟩
   rw [hch] at ec
   simp only [hch]
   simp only [payE, AEntry.dv] at ec ⊢
   simp only [List.map_append, List.map_cons, List.map_nil, hz] at en
   obtain ⟨nl, hnl⟩ : ∃ z, netL (g ++ [⟨from0, sm, a.Terms.Currency⟩]) = z := ⟨_, rfl⟩
   simp only [hnl] at en ec ⊢
   simp only [loanT, List.cons_append, List.nil_append] at ec ⊢
   simp [F89, Fr.ofArgs, hn2, g1]
   refine (lp _ (some (.t [.d AEntry.zero.dv, .d (I 1)], false)) (fun fr H o h1 h2 h3 h4 => ?_) _ _ (by simp [st89, AEntry.zdv, gc, Fr.keep, reach, frRefs, heapRefs, PV.refs, place, gcH, orefs, Obj.refs, PV.ren, Obj.ren, Heap.obj, Fr.ren, gh, List.idxOf?_cons])).trans ?_
   ·simp [h1, h2, h3, h4, fin_ret]
   ·cases g with
    | nil =>
     simp only [List.map_nil, List.nil_append] at en
     by_cases hc : ch = 0
     ·rw [hc] at ec
      simp [st89, ei, en, gi, ec, hc, b_agg, agg_n, agg_c, cells_s, cells_i, cells_l, putAt, mkA, plains, size_n, List.drop_succ_cons, List.drop_zero, List.take_succ_cons, List.take_zero, List.cons_append, List.nil_append, purs, pur, purC, frz, frz1, scal_l, bne]
     ·have hc2 : (ch == 0) = false := by simpa using hc
      simp [st89, ei, en, gi, ec, hc, hc2, AEntry.zdv, b_agg, agg_n, agg_c, cells_s, cells_i, cells_l, putAt, mkA, plains, size_n, List.drop_succ_cons, List.drop_zero, List.take_succ_cons, List.take_zero, List.cons_append, List.nil_append, purs, pur, purC, frz, frz1, scal_l, bne]
      try rfl
    | cons y g =>
     have g5 : (g.length + 1 + 1) * 32 ≤ 140737488355328 := by simp at hl; omega
     have ht : (g.map ALeg.dv).take g.length = g.map ALeg.dv := List.take_of_length_le (by simp)
     have ht2 : ∀ A : DV, ((g.map ALeg.dv) ++ [A]).take (g.length + 1) = g.map ALeg.dv ++ [A] := fun A => List.take_of_length_le (by simp)
     simp only [List.map_cons, List.cons_append] at en
     by_cases hc : ch = 0
     ·rw [hc] at ec
      simp [st89, ei, en, gi, ec, hc, g5, ht, ht2, ↓appE_rf, b_agg, agg_n, agg_c, cells_s, cells_i, cells_l, putAt, mkA, plains, size_n, List.drop_succ_cons, List.drop_zero, List.take_succ_cons, List.take_zero, List.cons_append, List.nil_append, purs, pur, purC, frz, frz1, scal_l, bne]
     ·have hc2 : (ch == 0) = false := by simpa using hc
      simp [st89, ei, en, gi, ec, hc, hc2, g5, ht, ht2, AEntry.zdv, ↓appE_rf, b_agg, agg_n, agg_c, cells_s, cells_i, cells_l, putAt, mkA, plains, size_n, List.drop_succ_cons, List.drop_zero, List.take_succ_cons, List.take_zero, List.cons_append, List.nil_append, purs, pur, purC, frz, frz1, scal_l, bne]
      try rfl
end Go.Sim
end
section
namespace Go.Sim
set_option maxRecDepth 10000
set_option maxHeartbeats 8000000
theorem val1080 (T : Tab) (hN : HN T) (hP : HP T) (b : ABank) (hb : b.ok) (a : ALoan) (ha : a.ok) (parts : List APart) (t : Bool) (from0 day : Int) (key : List UInt8) (hn : parts.length ≤ 20) (hf : inK .i64 from0) (hd : inK .i64 day) (hk : key.length ≤ maxLen) :
  T.val 1080 [b.dv, a.dv, .l (K1 2) (parts.map APart.dv) t, I from0, I day, .s key] = some (.t [.d (paidN b a parts from0 day key).1.dv, .d (I (paidN b a parts from0 day key).2)], false) := by
 rw [val_k T (hP 1080 F1080 rfl) rfl]
 unfold paidN
 by_cases hn2 : 12 < parts.length
 ·have g1 : (12 : Int) < parts.length := by omega
  simp [F1080, Fr.ofArgs, hn2, g1, purs, pur, purC, AEntry.zdv]
 ·have g1 : ¬ (12 : Int) < parts.length := by omega
  have lp := fun k r hr fr H h0 => @lp1080 T hP b a parts t from0 day key hn k r fr H hr h0
  cases hs : paidF b.Books.Plan a.Terms.Currency (0, []) parts with
  | none =>
   rw [hs] at lp
   simp [F1080, Fr.ofArgs, hn2, g1]
   refine lp _ (some (.t [.d AEntry.zero.dv, .d (I 1)], false)) (fun fr H o h1 h2 h3 h4 => ?_) _ _ (by simp [st1080, AEntry.zdv, gc, Fr.keep, reach, frRefs, heapRefs, PV.refs, place, gcH, orefs, Obj.refs, PV.ren, Obj.ren, Heap.obj, Fr.ren, gh, List.idxOf?_cons])
   simp [h1, h2, h3, h4, fin_ret]
  | some s =>
   obtain ⟨hok, hl⟩ := payE_ok hb ha (parts := parts) (by omega) hf hd hk hs
   rw [hs] at lp
   simp only [if_pos hl] at lp
   obtain ⟨sm, g⟩ := s
   have r := inK64 ha.1
   have ei := val517 T hP a.Id r.1 r.2
   have li := itoaB_len r.1 r.2
   have gi : 5 + (itoaB a.Id).length < 4611686018427387904 := by omega
   have en := val1018 T hN (g ++ [⟨from0, sm, a.Terms.Currency⟩]) false (by simp at hl ⊢; omega)
   have ec := val679 T hP (payE a from0 day key (sm, g)) hok
   have hz : ∀ x y c, ALeg.dv ⟨x, y, c⟩ = DV.a [I x, I y, .s c] := fun _ _ _ => rfl
   obtain ⟨ch, hch⟩ : ∃ z, chkE (payE a from0 day key (sm, g)) = z := ⟨_, rfl⟩
   rw [hch] at ec
   simp only [hch]
   simp only [payE, AEntry.dv] at ec ⊢
   simp only [List.map_append, List.map_cons, List.map_nil, hz] at en
   obtain ⟨nl, hnl⟩ : ∃ z, netL (g ++ [⟨from0, sm, a.Terms.Currency⟩]) = z := ⟨_, rfl⟩
   simp only [hnl] at en ec ⊢
   simp only [loanT, List.cons_append, List.nil_append] at ec ⊢
   simp [F1080, Fr.ofArgs, hn2, g1]
   refine (lp _ (some (.t [.d AEntry.zero.dv, .d (I 1)], false)) (fun fr H o h1 h2 h3 h4 => ?_) _ _ (by simp [st1080, AEntry.zdv, gc, Fr.keep, reach, frRefs, heapRefs, PV.refs, place, gcH, orefs, Obj.refs, PV.ren, Obj.ren, Heap.obj, Fr.ren, gh, List.idxOf?_cons])).trans ?_
   ·simp [h1, h2, h3, h4, fin_ret]
   ·cases g with
    | nil =>
     simp only [List.map_nil, List.nil_append] at en
     by_cases hc : ch = 0
     ·rw [hc] at ec
      simp [st1080, ei, en, gi, ec, hc, b_agg, agg_n, agg_c, cells_s, cells_i, cells_l, putAt, mkA, plains, size_n, List.drop_succ_cons, List.drop_zero, List.take_succ_cons, List.take_zero, List.cons_append, List.nil_append, purs, pur, purC, frz, frz1, scal_l, bne]
     ·have hc2 : (ch == 0) = false := by simpa using hc
      simp [st1080, ei, en, gi, ec, hc, hc2, AEntry.zdv, b_agg, agg_n, agg_c, cells_s, cells_i, cells_l, putAt, mkA, plains, size_n, List.drop_succ_cons, List.drop_zero, List.take_succ_cons, List.take_zero, List.cons_append, List.nil_append, purs, pur, purC, frz, frz1, scal_l, bne]
      try rfl
    | cons y g =>
     have g5 : (g.length + 1 + 1) * 32 ≤ 140737488355328 := by simp at hl; omega
     have ht : (g.map ALeg.dv).take g.length = g.map ALeg.dv := List.take_of_length_le (by simp)
     have ht2 : ∀ A : DV, ((g.map ALeg.dv) ++ [A]).take (g.length + 1) = g.map ALeg.dv ++ [A] := fun A => List.take_of_length_le (by simp)
     simp only [List.map_cons, List.cons_append] at en
     by_cases hc : ch = 0
     ·rw [hc] at ec
      simp [st1080, ei, en, gi, ec, hc, g5, ht, ht2, ↓appE_rf, b_agg, agg_n, agg_c, cells_s, cells_i, cells_l, putAt, mkA, plains, size_n, List.drop_succ_cons, List.drop_zero, List.take_succ_cons, List.take_zero, List.cons_append, List.nil_append, purs, pur, purC, frz, frz1, scal_l, bne]
     ·have hc2 : (ch == 0) = false := by simpa using hc
      simp [st1080, ei, en, gi, ec, hc, hc2, g5, ht, ht2, AEntry.zdv, ↓appE_rf, b_agg, agg_n, agg_c, cells_s, cells_i, cells_l, putAt, mkA, plains, size_n, List.drop_succ_cons, List.drop_zero, List.take_succ_cons, List.take_zero, List.cons_append, List.nil_append, purs, pur, purC, frz, frz1, scal_l, bne]
      try rfl
end Go.Sim
end
section
namespace Go.Sim
set_option maxRecDepth 10000
set_option maxHeartbeats 8000000
end Go.Sim
end
section
namespace Go.Sim
set_option maxRecDepth 10000
set_option maxHeartbeats 8000000
end Go.Sim
end
section
namespace Go.Sim
set_option maxRecDepth 10000
set_option maxHeartbeats 8000000
def tot : List ALeg → Int
 | [] => 0
 | x :: l => x.Amount + tot l
def sumW (l : List ALeg) : Int := foldN (fun _ s (x : ALeg) => w64 (s + x.Amount)) 0 0 l
theorem sumW_go : ∀ (l : List ALeg) (i : Nat) (s : Int), foldN (fun _ s (x : ALeg) => w64 (s + x.Amount)) i (w64 s) l = w64 (s + tot l)
 | [], i, s => by simp [foldN, tot]
 | x :: l, i, s => by rw [foldN, w64_add, sumW_go l, tot, Int.add_assoc]
theorem sumW_eq (l : List ALeg) : sumW l = w64 (tot l) := by
 have h0 : w64 0 = 0 := by decide
 have := sumW_go l 0 0
 rw [h0, Int.zero_add] at this
 exact this
theorem tot_ins : ∀ (g : List ALeg) (x : ALeg), w64 (tot (insG g x)) = w64 (tot g + x.Amount)
 | [], x => by simp [insG, tot]
 | y :: g, x => by
  unfold insG
  split
  ·have h := tot_ins g x
   simp only [tot]
   rw [← w64_add', h, w64_add', Int.add_assoc]
  ·split
   ·simp only [tot]; congr 1; omega
   ·simp only [tot, addL]
    rw [w64_add]
    congr 1; omega
theorem tot_fold : ∀ (l g : List ALeg), w64 (tot (l.foldl insG g)) = w64 (tot g + tot l)
 | [], g => by simp [tot]
 | x :: l, g => by
  rw [List.foldl_cons, tot_fold l, ← w64_add, tot_ins, w64_add, tot, Int.add_assoc]
theorem tot_filt : ∀ (g : List ALeg), tot (g.filter fun x => x.Amount != 0) = tot g
 | [] => rfl
 | y :: g => by
  have h := tot_filt g
  by_cases hy : y.Amount = 0
  ·rw [List.filter_cons_of_neg (by simpa using hy), h, tot, hy, Int.zero_add]
  ·rw [List.filter_cons_of_pos (by simpa using hy), tot, tot, h]
theorem sum_net (l : List ALeg) : sumW (netL l) = w64 (tot l) := by
 rw [sumW_eq, netL, tot_filt, tot_fold]; simp [tot]
theorem hasL_app : ∀ {a b : List Ty} {xs : List DV}, HasL (a ++ b) xs → ∃ u v, xs = u ++ v ∧ HasL a u ∧ HasL b v
 | [], b, xs, h => ⟨[], xs, rfl, trivial, h⟩
 | t :: a, b, xs, h => by
  obtain ⟨x, r, rfl, h1, h2⟩ := hasL_cons h
  obtain ⟨u, v, rfl, h3, h4⟩ := hasL_app h2
  exact ⟨x :: u, v, rfl, ⟨h1, h3⟩, h4⟩
end Go.Sim
end
section
namespace Go.Sim
set_option maxRecDepth 10000
set_option maxHeartbeats 4000000
def crF (s : Int) (x : APart) : Int := if x.Kind = 5 then s else w64 (s + x.Amount)
theorem paid_cr {p : APlan} {cur : List UInt8} : ∀ (l : List APart) (s z : Int × List ALeg), paidF p cur s l = some z → z.1 = l.foldl crF s.1
 | [], s, z, h => by cases h; rfl
 | x :: l, s, z, h => by
  rw [paidF] at h
  split at h
  ·rw [paid_cr l _ z h, List.foldl_cons]
   congr 1
   unfold stepP crF
   split <;> rfl
  ·cases h
theorem tot_app : ∀ (a b : List ALeg), tot (a ++ b) = tot a + tot b
 | [], b => by simp [tot]
 | x :: a, b => by simp only [List.cons_append, tot, tot_app a b]; omega
theorem paid_tot {p : APlan} {cur : List UInt8} : ∀ (l : List APart) (s z : Int × List ALeg), paidF p cur s l = some z → w64 (tot z.2 + z.1) = w64 (tot s.2 + s.1)
 | [], s, z, h => by cases h; rfl
 | x :: l, s, z, h => by
  rw [paidF] at h
  split at h
  ·rw [paid_tot l _ z h]
   unfold stepP
   split
   ·rfl
   ·simp only [tot_app, tot, w64, IntKind.wrap_i64]
    omega
  ·cases h
theorem pay_sum {p : APlan} {cur : List UInt8} {l : List APart} {z : Int × List ALeg} (h : paidF p cur (0, []) l = some z) (f : Int) (c : List UInt8) : sumW (netL (z.2 ++ [⟨f, z.1, c⟩])) = 0 := by
 rw [sum_net, tot_app]
 have := paid_tot l (0, []) z h
 simp only [tot, Int.add_zero] at this ⊢
 rw [this]
 decide
def absS : List ALeg → Int
 | [] => 0
 | x :: l => (if x.Amount < 0 then -x.Amount else x.Amount) + absS l
def posS : List ALeg → Int
 | [] => 0
 | x :: l => (if x.Amount < 0 then 0 else x.Amount) + posS l
theorem absS_nn : ∀ l, 0 ≤ absS l
 | [] => Int.le_refl _
 | x :: l => by have := absS_nn l; simp only [absS]; split <;> omega
theorem posS_nn : ∀ l, 0 ≤ posS l
 | [] => Int.le_refl _
 | x :: l => by have := posS_nn l; simp only [posS]; split <;> omega
theorem absS_app : ∀ (a b : List ALeg), absS (a ++ b) = absS a + absS b
 | [], b => by simp [absS]
 | x :: a, b => by simp only [List.cons_append, absS, absS_app a b]; omega
theorem posS_app : ∀ (a b : List ALeg), posS (a ++ b) = posS a + posS b
 | [], b => by simp [posS]
 | x :: a, b => by simp only [List.cons_append, posS, posS_app a b]; omega
theorem ins_ap : ∀ (g : List ALeg) (x : ALeg), absS g + absS [x] < 9223372036854775808 → absS (insG g x) ≤ absS g + absS [x] ∧ posS (insG g x) ≤ posS g + posS [x]
 | [], x, _ => by simp [insG, absS, posS]
 | y :: g, x, h => by
  have hg := absS_nn g
  unfold insG
  split
  ·have ih := ins_ap g x (by simp only [absS] at h ⊢; split at h <;> split at h <;> omega)
   simp only [absS, posS] at ih ⊢
   omega
  ·split
   ·simp only [absS, posS]
    omega
   ·have hw : w64 (y.Amount + x.Amount) = y.Amount + x.Amount := wrI (by simp only [absS] at h; split at h <;> split at h <;> omega) (by simp only [absS] at h; split at h <;> split at h <;> omega)
    simp only [absS, posS, addL, hw]
    split <;> split <;> split <;> omega
theorem fold_ap : ∀ (l g : List ALeg), absS g + absS l < 9223372036854775808 → posS (l.foldl insG g) ≤ posS g + posS l
 | [], g, _ => by simp [posS]
 | x :: l, g, h => by
  have h2 : absS (x :: l) = absS [x] + absS l := by simp [absS]
  have h3 : posS (x :: l) = posS [x] + posS l := by simp [posS]
  have hl := absS_nn l
  rw [h2] at h
  have i1 := ins_ap g x (by omega)
  rw [List.foldl_cons, h3]
  have := fold_ap l (insG g x) (by omega)
  omega
theorem filt_pos : ∀ (g : List ALeg), posS (g.filter fun x => x.Amount != 0) = posS g
 | [] => rfl
 | y :: g => by
  have h := filt_pos g
  by_cases hy : y.Amount = 0
  ·rw [List.filter_cons_of_neg (by simpa using hy), h, posS, hy]; simp
  ·rw [List.filter_cons_of_pos (by simpa using hy), posS, posS, h]
def dbF (s : Int) (x : ALeg) : Int := w64 (s + (if x.Amount < 0 then 0 else x.Amount))
theorem db_pos : ∀ (l : List ALeg) (s : Int), 0 ≤ s → s + posS l < 9223372036854775808 → l.foldl dbF s = s + posS l
 | [], s, _, _ => by simp [posS]
 | x :: l, s, h0, h => by
  have hp := posS_nn l
  simp only [posS] at h
  have hw : dbF s x = s + (if x.Amount < 0 then 0 else x.Amount) := wrI (by split <;> omega) (by split at h <;> split <;> omega)
  rw [List.foldl_cons, hw, db_pos l _ (by split <;> omega) (by omega), posS]
  omega
def lim : Int := 20000000000000
theorem paid_ap {p : APlan} {cur : List UInt8} (z : Int × List ALeg) (l : List APart) : ∀ (s : Int × List ALeg) (m : Int), paidF p cur s l = some z → l.length + m ≤ 20 → 0 ≤ m → 0 ≤ s.1 → s.1 ≤ m * 1000000000000 → posS s.2 = 0 → absS s.2 ≤ m * 1000000000000 → 0 ≤ z.1 ∧ z.1 ≤ lim ∧ posS z.2 = 0 ∧ absS z.2 ≤ lim := by
 induction l with
 | nil =>
  intro s m h hm h0 h1 h2 h3 h4
  have e : s = z := Option.some.inj h
  subst e
  simp only [List.length_nil] at hm
  unfold lim
  exact ⟨h1, by omega, h3, by omega⟩
 | cons x l ih =>
  intro s m h hm h0 h1 h2 h3 h4
  rw [paidF] at h
  simp only [List.length_cons] at hm
  split at h
  ·rename_i hok
   have ha : 0 ≤ x.Amount ∧ x.Amount ≤ 1000000000000 := by
    simp only [okP, amtB, Bool.and_eq_true, decide_eq_true_eq] at hok
    exact hok.2
   refine ih _ (m + 1) h (by omega) (by omega) ?_ ?_ ?_ ?_
   ·unfold stepP; split
    ·exact h1
    ·show 0 ≤ w64 (s.1 + x.Amount)
     rw [w64, wrI (by omega) (by omega)]; omega
   ·unfold stepP; split
    ·omega
    ·show w64 (s.1 + x.Amount) ≤ _
     rw [w64, wrI (by omega) (by omega)]; omega
   ·unfold stepP; split
    ·exact h3
    ·show posS (s.2 ++ _) = 0
     rw [posS_app, h3]
     simp only [posS]
     rw [w64, wrI (by omega) (by omega)]
     split <;> omega
   ·unfold stepP; split
    ·omega
    ·show absS (s.2 ++ _) ≤ _
     rw [absS_app]
     simp only [absS]
     rw [w64, wrI (by omega) (by omega)]
     split <;> omega
  ·cases h
theorem pay_db {p : APlan} {cur : List UInt8} {l : List APart} (hn : l.length ≤ 20) {z : Int × List ALeg} (h : paidF p cur (0, []) l = some z) (f : Int) (c : List UInt8) : (netL (z.2 ++ [⟨f, z.1, c⟩])).foldl dbF 0 ≤ l.foldl crF 0 := by
 have hz := paid_ap z l (0, []) 0 h (by omega) (Int.le_refl _) (Int.le_refl _) (by simp) rfl (by simp [absS])
 unfold lim at hz
 rw [← paid_cr l (0, []) z h]
 have hp : posS (netL (z.2 ++ [⟨f, z.1, c⟩])) ≤ z.1 := by
  rw [netL, filt_pos]
  have h1 : absS [⟨f, z.1, c⟩] = z.1 := by simp only [absS]; split <;> omega
  have h2 : posS [⟨f, z.1, c⟩] = z.1 := by simp only [posS]; split <;> omega
  have := fold_ap (z.2 ++ [⟨f, z.1, c⟩]) [] (by rw [absS_app, h1]; simp only [absS]; omega)
  rw [posS_app, h2] at this
  simp only [posS] at this
  omega
 rw [db_pos _ 0 (Int.le_refl _) (by omega)]
 omega
end Go.Sim
end
section
namespace Go.Sim
set_option maxRecDepth 10000
set_option maxHeartbeats 8000000
theorem val9p (T : Tab) (hP : HP T) (x y : AEntry) (hx : x.Legs.l.length ≤ maxLen) : T.val 9 [x.dv, y.dv] = some (.d (.b (AEntry.beq x y)), false) := by
 rw [val_k T (hP 9 F9 rfl) rfl]
 have d0 := val14 T (hP 14 F14 rfl) x.Legs.l y.Legs.l x.Legs.t y.Legs.t hx
 simp [F9, Fr.ofArgs]
 repeat' (refine brn_split (fun h => ?_) (fun h => ?_) <;> (try simp at h) <;> (try simp [h, d0]))
 all_goals simp_all [AEntry.beq, ibq, sbq]
structure APay where
 Bank : ABank
 Loan : ALoan
 Parts : SL APart
 From : Int
 Day : Int
 Key : List UInt8
def APay.cells (x : APay) : List DV := x.Bank.cells ++ (x.Loan.cells ++ [.l (K1 2) (x.Parts.l.map APart.dv) x.Parts.t, I x.From, I x.Day, .s x.Key])
def APay.dv (x : APay) : DV := .a x.cells
def APay.ok (x : APay) : Prop := x.Bank.ok ∧ x.Loan.ok ∧ inK .i64 x.From ∧ inK .i64 x.Day ∧ x.Key.length ≤ maxLen
def APay.ty : List Ty := ABank.ty ++ (ALoan.ty ++ [.l (K1 2) 16 APart.ty, .i .i64, .i .i64, .s])
theorem APay.of (cs : List DV) (h : HasL APay.ty cs) : ∃ x : APay, DV.a cs = x.dv ∧ x.ok := by
 obtain ⟨u, v, rfl, h1, h2⟩ := hasL_app (a := ABank.ty) h
 obtain ⟨w, z, rfl, h3, h4⟩ := hasL_app (a := ALoan.ty) h2
 obtain ⟨b, e1, k1⟩ := ABank.of u h1
 obtain ⟨a, e2, k2⟩ := ALoan.of w h3
 have g1 : u = b.cells := by have := e1; rw [← ABank.aof] at this; exact DV.a.inj this
 have g2 : w = a.cells := by have := e2; rw [← ALoan.aof] at this; exact DV.a.inj this
 obtain ⟨_, _, rfl, q1, h4⟩ := hasL_cons h4
 obtain ⟨_, _, rfl, q2, h4⟩ := hasL_cons h4
 obtain ⟨_, _, rfl, q3, h4⟩ := hasL_cons h4
 obtain ⟨_, _, rfl, q4, h4⟩ := hasL_cons h4
 obtain rfl := hasL_nil h4
 obtain ⟨P, rfl, p1, -⟩ := (fun h => to_l h APart.ofB) q1
 obtain ⟨f, rfl, p2⟩ := has_i q2
 obtain ⟨d, rfl, p3⟩ := has_i q3
 obtain ⟨k, rfl, p4⟩ := has_s q4
 exact ⟨⟨b, a, P, f, d, k⟩, by rw [g1, g2]; rfl, k1, k2, p2, p3, p4⟩
theorem APay.fits (x : APay) : Sim.fits (K1 71) (.d (APay.dv x)) = true := rfl
theorem APay.clen (x : APay) : (APay.dv x).cells.length = 71 := rfl
theorem APay.n0 (x : APay) : ((APay.dv x).cells.drop 0).take 42 = x.Bank.cells := rfl
theorem APay.n0' (x : APay) : (APay.dv x).cells.take 42 = x.Bank.cells := rfl
theorem APay.n42 (x : APay) : ((APay.dv x).cells.drop 42).take 25 = x.Loan.cells := rfl
theorem APay.c65 (x : APay) : (APay.dv x).cells[65]? = some (.l (K1 4) (x.Loan.Dues.l.map ADue.dv) x.Loan.Dues.t) := rfl
theorem APay.c66 (x : APay) : (APay.dv x).cells[66]? = some (.l (K1 14) (x.Loan.Changes.l.map AChange.dv) x.Loan.Changes.t) := rfl
theorem APay.c67 (x : APay) : (APay.dv x).cells[67]? = some (.l (K1 2) (x.Parts.l.map APart.dv) x.Parts.t) := rfl
theorem APay.c68 (x : APay) : (APay.dv x).cells[68]? = some (I x.From) := rfl
theorem APay.c69 (x : APay) : (APay.dv x).cells[69]? = some (I x.Day) := rfl
theorem APay.c70 (x : APay) : (APay.dv x).cells[70]? = some (.s x.Key) := rfl
theorem foldN_l {α β : Type} (f : β → α → β) : ∀ (l : List α) (i : Nat) (b : β), foldN (fun _ b x => f b x) i b l = l.foldl f b
 | [], _, _ => rfl
 | x :: l, i, b => by rw [foldN, foldN_l f l, List.foldl_cons]
theorem lp1079_0 (T : Tab) (x : APay) (en : AEntry) (hn : x.Parts.l.length ≤ 20) {k : KC (PV × Bool)} {fr : Fr} {H : Heap}
  (h0 : gc [1, 3, 7, 8, 9] 0 ⟨fr, H⟩ = ⟨[(9, .d (I 0)), (8, .d (I 0)), (7, .d (I 0)), (3, .p 0 0 0), (1, .p 1 0 0)], [some (.box (K1 10) (.d en.dv)), some (.box (K1 71) (.d x.dv))]⟩) :
  kC T.env 0 fr H (.h (.loop [1, 3, 7, 8, 9] L1079_0, k)) = k (.exit 0) [(92, .d (.b false)), (9, .d (I x.Parts.l.length)), (8, .d (I (x.Parts.l.foldl crF 0))), (7, .d (I 0)), (3, .p 0 0 0), (1, .p 1 0 0)] [some (.box (K1 10) (.d en.dv)), some (.box (K1 71) (.d x.dv))] := by
 rw [loop_rounds x.Parts.l (fun i (s : Int) => ⟨[(9, .d (I i)), (8, .d (I s)), (7, .d (I 0)), (3, .p 0 0 0), (1, .p 1 0 0)], [some (.box (K1 10) (.d en.dv)), some (.box (K1 71) (.d x.dv))]⟩) (fun _ _ => True) (fun _ s y c => c (crF s y)) (fun s => k (.exit 0) [(92, .d (.b false)), (9, .d (I x.Parts.l.length)), (8, .d (I s)), (7, .d (I 0)), (3, .p 0 0 0), (1, .p 1 0 0)] [some (.box (K1 10) (.d en.dv)), some (.box (K1 71) (.d x.dv))]) ?_ ?_ (b0 := 0) h0 trivial]
 ·rw [rounds_fold (fun _ s y => crF s y) _ _ (fun _ _ _ _ => rfl), foldN_l]
 ·intro B _ s _
  simp [L1079_0, APay.c67]
 ·intro B _ i s hi _ c hc
  have h1 : (i : Int) < x.Parts.l.length := by omega
  have h3 := wr1 (i := i) (by omega)
  have hc' := fun fr H => hc (crF s x.Parts.l[i]) fr H trivial
  clear hc
  unfold crF at hc' ⊢
  by_cases q : x.Parts.l[i].Kind = 5
  ·rw [if_pos q] at hc' ⊢
   simp [L1079_0, APay.c67, h1, hi, h3, q, bne]
   exact hc' _ _ (by simp [gc, Fr.keep, reach, frRefs, heapRefs, PV.refs, place, gcH, orefs, Obj.refs, PV.ren, Obj.ren, Heap.obj, Fr.ren, gh, List.idxOf?_cons])
  ·rw [if_neg q] at hc' ⊢
   have q2 : (x.Parts.l[i].Kind == 5) = false := by simpa using q
   simp [L1079_0, APay.c67, h1, hi, h3, q2, bne]
   exact hc' _ _ (by simp [gc, Fr.keep, reach, frRefs, heapRefs, PV.refs, place, gcH, orefs, Obj.refs, PV.ren, Obj.ren, Heap.obj, Fr.ren, gh, List.idxOf?_cons, w64])
theorem lp1079_1 (T : Tab) (en : AEntry) (cr : Int) (hn : en.Legs.l.length ≤ 100) {k : KC (PV × Bool)} {fr : Fr} {H : Heap}
  (h0 : gc [3, 7, 8, 10] 0 ⟨fr, H⟩ = ⟨[(10, .d (I 0)), (8, .d (I cr)), (7, .d (I 0)), (3, .p 0 0 0)], [some (.box (K1 10) (.d en.dv))]⟩) :
  kC T.env 0 fr H (.h (.loop [3, 7, 8, 10] L1079_1, k)) = k (.exit 2) [(114, .d (.b false)), (10, .d (I en.Legs.l.length)), (8, .d (I cr)), (7, .d (I (sumW en.Legs.l))), (3, .p 0 0 0)] [some (.box (K1 10) (.d en.dv))] := by
 rw [loop_rounds en.Legs.l (fun i (s : Int) => ⟨[(10, .d (I i)), (8, .d (I cr)), (7, .d (I s)), (3, .p 0 0 0)], [some (.box (K1 10) (.d en.dv))]⟩) (fun _ _ => True) (fun _ s y c => c (w64 (s + y.Amount))) (fun s => k (.exit 2) [(114, .d (.b false)), (10, .d (I en.Legs.l.length)), (8, .d (I cr)), (7, .d (I s)), (3, .p 0 0 0)] [some (.box (K1 10) (.d en.dv))]) ?_ ?_ (b0 := 0) h0 trivial]
 ·exact rounds_fold (fun _ s (y : ALeg) => w64 (s + y.Amount)) _ _ (fun _ _ _ _ => rfl) 0 0 en.Legs.l
 ·intro B _ s _
  simp [L1079_1]
 ·intro B _ i s hi _ c hc
  have h1 : (i : Int) < en.Legs.l.length := by omega
  have h3 := wr1 (i := i) (by omega)
  simp [L1079_1, h1, hi, h3]
  exact hc _ _ _ trivial (by simp [gc, Fr.keep, reach, frRefs, heapRefs, PV.refs, place, gcH, orefs, Obj.refs, PV.ren, Obj.ren, Heap.obj, Fr.ren, gh, List.idxOf?_cons, w64])
theorem lp1079_2 (T : Tab) (en : AEntry) (cr sm : Int) (hn : en.Legs.l.length ≤ 100) {k : KC (PV × Bool)} {fr : Fr} {H : Heap}
  (h0 : gc [3, 7, 8, 11, 12] 0 ⟨fr, H⟩ = ⟨[(12, .d (I 0)), (11, .d (I 0)), (8, .d (I cr)), (7, .d (I sm)), (3, .p 0 0 0)], [some (.box (K1 10) (.d en.dv))]⟩) :
  kC T.env 0 fr H (.h (.loop [3, 7, 8, 11, 12] L1079_2, k)) = k (.exit 4) [(129, .d (.b false)), (12, .d (I en.Legs.l.length)), (11, .d (I (en.Legs.l.foldl dbF 0))), (8, .d (I cr)), (7, .d (I sm)), (3, .p 0 0 0)] [some (.box (K1 10) (.d en.dv))] := by
 rw [loop_rounds en.Legs.l (fun i (s : Int) => ⟨[(12, .d (I i)), (11, .d (I s)), (8, .d (I cr)), (7, .d (I sm)), (3, .p 0 0 0)], [some (.box (K1 10) (.d en.dv))]⟩) (fun _ _ => True) (fun _ s y c => c (dbF s y)) (fun s => k (.exit 4) [(129, .d (.b false)), (12, .d (I en.Legs.l.length)), (11, .d (I s)), (8, .d (I cr)), (7, .d (I sm)), (3, .p 0 0 0)] [some (.box (K1 10) (.d en.dv))]) ?_ ?_ (b0 := 0) h0 trivial]
 ·rw [rounds_fold (fun _ s y => dbF s y) _ _ (fun _ _ _ _ => rfl), foldN_l]
 ·intro B _ s _
  simp [L1079_2]
 ·intro B _ i s hi _ c hc
  have h1 : (i : Int) < en.Legs.l.length := by omega
  have h3 := wr1 (i := i) (by omega)
  have hm : max en.Legs.l[i].Amount 0 = if en.Legs.l[i].Amount < 0 then 0 else en.Legs.l[i].Amount := by split <;> omega
  simp [L1079_2, h1, hi, h3, hm]
  exact hc _ _ _ trivial (by simp [gc, Fr.keep, reach, frRefs, heapRefs, PV.refs, place, gcH, orefs, Obj.refs, PV.ren, Obj.ren, Heap.obj, Fr.ren, gh, List.idxOf?_cons, dbF, w64])
end Go.Sim
end
section
namespace Go.Sim
set_option maxRecDepth 10000
set_option maxHeartbeats 8000000
theorem pay_fin {b : ABank} (hb : b.ok) {a : ALoan} (ha : a.ok) {parts : List APart} {f d : Int} (hf : inK .i64 f) (hd : inK .i64 d) {key : List UInt8} (hk : key.length ≤ maxLen) (h : (paidN b a parts f d key).2 = 0) :
  sumW (paidN b a parts f d key).1.Legs.l = 0 ∧ (paidN b a parts f d key).1.Legs.l.foldl dbF 0 ≤ parts.foldl crF 0 ∧ chkE (paidN b a parts f d key).1 = 0 ∧ (paidN b a parts f d key).1.ok := by
 unfold paidN at h ⊢
 by_cases hn : 12 < parts.length
 ·rw [if_pos hn] at h; exact absurd h (by decide)
 ·rw [if_neg hn] at h ⊢
  cases hs : paidF b.Books.Plan a.Terms.Currency (0, []) parts with
  | none => rw [hs] at h; exact absurd (show (1 : Int) = 0 from h) (by decide)
  | some s =>
   rw [hs] at h
   simp only at h ⊢
   by_cases hc : chkE (payE a f d key s) = 0
   ·simp only [if_pos hc]
    exact ⟨pay_sum hs f _, pay_db (by omega) hs f _, hc, (payE_ok hb ha (by omega) hf hd hk hs).1⟩
   ·rw [if_neg hc] at h; exact absurd h (by decide)
theorem pay_len {b : ABank} (hb : b.ok) {a : ALoan} (ha : a.ok) {parts : List APart} {f d : Int} (hf : inK .i64 f) (hd : inK .i64 d) {key : List UInt8} (hk : key.length ≤ maxLen) : (paidN b a parts f d key).1.Legs.l.length ≤ 100 := by
 unfold paidN
 by_cases hn : 12 < parts.length
 ·rw [if_pos hn]; show 0 ≤ 100; omega
 ·rw [if_neg hn]
  cases hs : paidF b.Books.Plan a.Terms.Currency (0, []) parts with
  | none => show 0 ≤ 100; omega
  | some s =>
   simp only
   by_cases hc : chkE (payE a f d key s) = 0
   ·rw [if_pos hc]
    have h1 := (payE_ok hb ha (parts := parts) (by omega) hf hd hk hs).2
    have h2 := netL_len (s.2 ++ [⟨f, s.1, a.Terms.Currency⟩])
    show (netL (s.2 ++ [⟨f, s.1, a.Terms.Currency⟩])).length ≤ 100
    simp only [List.length_append, List.length_cons, List.length_nil] at h2
    omega
   ·rw [if_neg hc]; show 0 ≤ 100; omega
theorem law1079 (T : Tab) (hN : HN T) (hP : HP T) (hI : HI T) (hI2 : HI2 T) (hIt : HIt T) (hl : T.val 78 [] = some (.d (.b true), false)) (x : APay) (hx : x.ok) : T.val 1079 [x.dv] = some (.d (.b true), false) := by
 rw [val_k T (hP 1079 F1079 rfl) rfl]
 have e0 := val77 T (hP 77 F77 rfl) (hP 85 F85 rfl) x.Bank hx.1
 by_cases b1 : bSmall x.Bank = true
 ·rw [b1] at e0
  by_cases b2 : (60 : Int) < x.Loan.Dues.l.length
  ·simp [F1079, Fr.ofArgs, APay.fits, APay.n0, APay.n0', APay.c65, e0, b2, hl]
  ·by_cases b3 : (10 : Int) < x.Loan.Changes.l.length
   ·simp [F1079, Fr.ofArgs, APay.fits, APay.n0, APay.n0', APay.c65, APay.c66, e0, b2, b3, hl]
   ·by_cases b4 : (20 : Int) < x.Parts.l.length
    ·simp [F1079, Fr.ofArgs, APay.fits, APay.n0, APay.n0', APay.c65, APay.c66, APay.c67, e0, b2, b3, b4, hl]
    ·by_cases b5 : (100 : Int) < x.Key.length
     ·simp [F1079, Fr.ofArgs, APay.fits, APay.n0, APay.n0', APay.c65, APay.c66, APay.c67, APay.c70, e0, b2, b3, b4, b5, hl]
     ·have hn : x.Parts.l.length ≤ 20 := by omega
      have e1 := val89 T hN hP hI hI2 hIt x.Bank hx.1 x.Loan hx.2.1 x.Parts.l x.Parts.t x.From x.Day x.Key hn hx.2.2.1 hx.2.2.2.1 hx.2.2.2.2
      have e2 := val1080 T hN hP x.Bank hx.1 x.Loan hx.2.1 x.Parts.l x.Parts.t x.From x.Day x.Key hn hx.2.2.1 hx.2.2.2.1 hx.2.2.2.2
      have hf := fun h => pay_fin hx.1 hx.2.1 (parts := x.Parts.l) hx.2.2.1 hx.2.2.2.1 hx.2.2.2.2 h
      have hlen := pay_len hx.1 hx.2.1 (parts := x.Parts.l) hx.2.2.1 hx.2.2.2.1 hx.2.2.2.2
      generalize paidN x.Bank x.Loan x.Parts.l x.From x.Day x.Key = pr at *
      obtain ⟨en, cd⟩ := pr
      simp only at e1 e2 hf hlen
      have e3 := val9p T hP en en (Nat.le_trans hlen (by decide))
      rw [AEntry.beq_refl] at e3
      have bn : (cd != cd) = false := by simp
      by_cases hc : cd = 0
      ·obtain ⟨f1, f2, f3, f4⟩ := hf hc
       have e4 := val679 T hP en f4
       rw [f3] at e4
       have lp0 := fun k fr H h => @lp1079_0 T x en hn k fr H h
       have lp1 := fun cr k fr H h => @lp1079_1 T en cr hlen k fr H h
       have lp2 := fun cr sm k fr H h => @lp1079_2 T en cr sm hlen k fr H h
       rw [f1] at lp1
       simp [F1079, Fr.ofArgs, APay.fits, APay.n0, APay.n0', APay.n42, APay.c65, APay.c66, APay.c67, APay.c68, APay.c69, APay.c70, e0, b2, b3, b4, b5, e1, e2, e3, hc]
       refine (lp0 _ _ _ (by simp [gc, Fr.keep, reach, frRefs, heapRefs, PV.refs, place, gcH, orefs, Obj.refs, PV.ren, Obj.ren, Heap.obj, Fr.ren, gh, List.idxOf?_cons])).trans ?_
       simp
       refine (lp1 (x.Parts.l.foldl crF 0) _ _ _ (by simp [gc, Fr.keep, reach, frRefs, heapRefs, PV.refs, place, gcH, orefs, Obj.refs, PV.ren, Obj.ren, Heap.obj, Fr.ren, gh, List.idxOf?_cons])).trans ?_
       simp
       refine (lp2 (x.Parts.l.foldl crF 0) 0 _ _ _ (by simp [gc, Fr.keep, reach, frRefs, heapRefs, PV.refs, place, gcH, orefs, Obj.refs, PV.ren, Obj.ren, Heap.obj, Fr.ren, gh, List.idxOf?_cons])).trans ?_
       simp [f2, e4, hl]
      ·have hc2 : (cd == 0) = false := by simpa using hc
       simp [F1079, Fr.ofArgs, APay.fits, APay.n0, APay.n0', APay.n42, APay.c65, APay.c66, APay.c67, APay.c68, APay.c69, APay.c70, e0, b2, b3, b4, b5, e1, e2, e3, hc2, bne, hl]
 ·have b1' : bSmall x.Bank = false := by simpa using b1
  rw [b1'] at e0
  simp [F1079, Fr.ofArgs, APay.fits, APay.n0, APay.n0', e0, hl]
end Go.Sim
end
end
section
namespace Go.Sim
noncomputable section
def kget (fr : Fr) (t : Nat) : PV := @List.rec (Nat × PV) (fun _ => PV) .u (fun p _ ih => @Prod.rec Nat PV (fun _ => PV) (fun j v => @Bool.rec (fun _ => PV) ih v (Nat.beq j t)) p) fr
theorem beq_ne {j t : Nat} (h : ¬ j = t) : Nat.beq j t = false := by
 cases e : Nat.beq j t with
 | false => rfl
 | true => exact absurd (Nat.eq_of_beq_eq_true e) h
theorem kget_eq : ∀ fr t, kget fr t = Fr.get fr t
 | [], t => rfl
 | (j, v) :: r, t => by
  have ih := kget_eq r t
  show @Bool.rec (fun _ => PV) (kget r t) v (Nat.beq j t) = _
  rw [ih, Fr.get]
  by_cases h : j = t
  ·subst h; rw [if_pos rfl, Nat.beq_refl]
  ·rw [if_neg h, beq_ne h]
def kset (fr : Fr) (t : Nat) (v : PV) : Fr := @List.rec (Nat × PV) (fun _ => Fr) [(t, v)] (fun p r ih => @Prod.rec Nat PV (fun _ => Fr) (fun j x => @Bool.rec (fun _ => Fr) (@Bool.rec (fun _ => Fr) ((j, x) :: ih) ((t, v) :: (j, x) :: r) (Nat.ble (Nat.succ j) t)) ((t, v) :: r) (Nat.beq j t)) p) fr
theorem kset_eq : ∀ fr t v, kset fr t v = Fr.set fr t v
 | [], t, v => rfl
 | (j, x) :: r, t, v => by
  have ih := kset_eq r t v
  show @Bool.rec (fun _ => Fr) (@Bool.rec (fun _ => Fr) ((j, x) :: kset r t v) ((t, v) :: (j, x) :: r) (Nat.ble (Nat.succ j) t)) ((t, v) :: r) (Nat.beq j t) = _
  rw [ih, Fr.set]
  by_cases h : j = t
  ·subst h; rw [if_pos rfl, Nat.beq_refl]
  ·rw [if_neg h, beq_ne h]
   show @Bool.rec (fun _ => Fr) _ _ (Nat.ble (Nat.succ j) t) = _
   by_cases h2 : j < t
   ·rw [if_pos h2, Nat.ble_eq_true_of_le h2]
   ·rw [if_neg h2, Bool.eq_false_iff.2 (fun e => h2 (Nat.le_of_ble_eq_true e))]
def kmem (l : List Nat) (j : Nat) : Bool := @List.rec Nat (fun _ => Bool) false (fun x _ ih => @Bool.rec (fun _ => Bool) ih true (Nat.beq x j)) l
theorem kmem_eq : ∀ l j, kmem l j = l.contains j
 | [], j => rfl
 | x :: r, j => by
  have ih := kmem_eq r j
  show @Bool.rec (fun _ => Bool) (kmem r j) true (Nat.beq x j) = _
  rw [ih, List.contains_cons]
  by_cases h : x = j
  ·subst h; rw [Nat.beq_refl]; simp
  ·rw [beq_ne h]; have : (j == x) = false := by simpa using fun e => h e.symm
   rw [this]; rfl
def kdrop (l : List Nat) (fr : Fr) : Fr := @List.rec (Nat × PV) (fun _ => Fr) [] (fun p _ ih => @Prod.rec Nat PV (fun _ => Fr) (fun j v => @Bool.rec (fun _ => Fr) ((j, v) :: ih) (@Bool.rec (fun _ => Fr) ((j, v) :: ih) ih (Nat.ble (Nat.succ j) 100000)) (kmem l j)) p) fr
theorem kdrop_eq (l : List Nat) : ∀ fr, kdrop l fr = Fr.drop l fr
 | [] => rfl
 | (j, v) :: r => by
  have ih := kdrop_eq l r
  show @Bool.rec (fun _ => Fr) ((j, v) :: kdrop l r) (@Bool.rec (fun _ => Fr) ((j, v) :: kdrop l r) (kdrop l r) (Nat.blt j gh)) (kmem l j) = _
  rw [ih, Fr.drop, kmem_eq]
  cases l.contains j <;> cases Nat.blt j gh <;> rfl
def kmap {α β : Type} (f : α → β) (l : List α) : List β := @List.rec α (fun _ => List β) [] (fun x _ ih => f x :: ih) l
theorem kmap_eq {α β : Type} (f : α → β) : ∀ l, kmap f l = l.map f
 | [] => rfl
 | x :: r => by show f x :: kmap f r = _; rw [kmap_eq f r]; rfl
def kapp {α : Type} (l m : List α) : List α := @List.rec α (fun _ => List α) m (fun x _ ih => x :: ih) l
theorem kapp_eq {α : Type} : ∀ (l m : List α), kapp l m = l ++ m
 | [], m => rfl
 | x :: r, m => by show x :: kapp r m = _; rw [kapp_eq r m]; rfl
def klen {α : Type} (l : List α) : Nat := @List.rec α (fun _ => Nat) 0 (fun _ _ ih => Nat.succ ih) l
theorem klen_eq {α : Type} : ∀ (l : List α), klen l = l.length
 | [] => rfl
 | x :: r => by show Nat.succ (klen r) = _; rw [klen_eq r]; rfl
def knth {α : Type} (l : List α) : Nat → Option α := @List.rec α (fun _ => Nat → Option α) (fun _ => none) (fun x _ ih n => @Nat.rec (fun _ => Option α) (some x) (fun m _ => ih m) n) l
theorem knth_eq {α : Type} : ∀ (l : List α) (n : Nat), knth l n = l[n]?
 | [], n => rfl
 | x :: r, 0 => rfl
 | x :: r, n + 1 => by show knth r n = _; rw [knth_eq r n]; rfl
def krep {α : Type} (x : α) (n : Nat) (l : List α) : List α := @Nat.rec (fun _ => List α) l (fun _ ih => x :: ih) n
theorem krep_eq {α : Type} (x : α) (l : List α) : ∀ n, krep x n l = List.replicate n x ++ l
 | 0 => rfl
 | n + 1 => by show x :: krep x n l = _; rw [krep_eq x l n]; rfl
def kobj (H : Heap) (o : Nat) : Option Obj := @Option.rec (Option Obj) (fun _ => Option Obj) none (fun x => x) (knth H o)
theorem kobj_eq (H : Heap) (o : Nat) : kobj H o = Heap.obj H o := by
 unfold kobj Heap.obj; rw [knth_eq]; cases H[o]? <;> rfl
def krd (E : Env) (fr : Fr) (x : Rand) : PV := @Rand.rec (fun _ => PV) (fun t => kget fr t) (fun v => .d v) (fun n => match E.G n with | some (v, k) => .q v k 0 | none => .u) (fun n => .f n []) x
theorem krd_eq (E : Env) (fr : Fr) : krd E fr = rd E fr := by
 funext x
 cases x with
 | t n => exact kget_eq fr n
 | c v => rfl
 | f n => rfl
 | g n => simp only [krd, rd]; cases E.G n <;> rfl
def kloadA : Heap → K → PV → Option PV := loadA
def kstoreA : Heap → K → PV → PV → Option Heap := storeA
def kiaddr : Heap → K → PV → PV → Option PV := iaddr
def kbinA : BinOp → PV → PV → Option DV := binA
def kmoveA : Nat → PV → Option PV := moveA
def klenA : Heap → Bool → PV → Option Nat := lenA
def k_mov (x : Rand) (E : Env) (fr : Fr) (H : Heap) (_id : Nat) : Option (PV × Heap) := some (krd E fr x, H)
def k_pick (c : Rand) (a : Rand) (b : Rand) (E : Env) (fr : Fr) (H : Heap) (_id : Nat) : Option (PV × Heap) := match krd E fr c with
  | .d (.b true) => some (krd E fr a, H)
  | .d (.b false) => some (krd E fr b, H)
  | _ => none
def k_alloc (k : K) (z : DV) (_E : Env) (_fr : Fr) (H : Heap) (id : Nat) : Option (PV × Heap) := some (.p id 0 0, H.put id (some (.box k (.d z))))
def k_box (k : K) (x : Rand) (E : Env) (fr : Fr) (H : Heap) (id : Nat) : Option (PV × Heap) := if fits k (krd E fr x) then some (.p id 0 0, H.put id (some (.box k (krd E fr x)))) else none
def k_agg (z : List DV) (parts : List (Nat × K × Rand)) (E : Env) (fr : Fr) (H : Heap) (_id : Nat) : Option (PV × Heap) := match aggA (z.map .d) (parts.map fun x => (x.1, x.2.1, krd E fr x.2.2)) with
  | some cs => some (mkA cs, H)
  | none => none
def k_bsl (k : K) (z : DV) (len : Nat) (parts : List (Nat × Rand)) (E : Env) (fr : Fr) (H : Heap) (id : Nat) : Option (PV × Heap) := match bslA H k (List.replicate len z) (parts.map fun x => (x.1, krd E fr x.2)) with
  | some (es, os) => some (.r id k 0 len true, (frz H os).put id (some (.sl k 0 es)))
  | none => none
def k_load (k : K) (x : Rand) (E : Env) (fr : Fr) (H : Heap) (_id : Nat) : Option (PV × Heap) := opt (kloadA H k (krd E fr x)) H
def k_store (k : K) (x : Rand) (y : Rand) (E : Env) (fr : Fr) (H : Heap) (_id : Nat) : Option (PV × Heap) := match kstoreA H k (krd E fr x) (krd E fr y) with | some H' => some (.u, H') | none => none
def k_bin (op : BinOp) (x : Rand) (y : Rand) (E : Env) (fr : Fr) (H : Heap) (_id : Nat) : Option (PV × Heap) := optD (kbinA op (krd E fr x) (krd E fr y)) H
def k_eqv (neg : Bool) (n : List Nat) (x : Rand) (y : Rand) (E : Env) (fr : Fr) (H : Heap) (_id : Nat) : Option (PV × Heap) := match eqA n (krd E fr x) (krd E fr y) with
  | some e => some (.d (.b (if neg then !e else e)), H)
  | none => none
def k_eqb (neg : Bool) (x : Rand) (y : Rand) (E : Env) (fr : Fr) (H : Heap) (_id : Nat) : Option (PV × Heap) := match krd E fr x, krd E fr y with
  | .d (.b a), .d (.b b) => some (.d (.b (if neg then !(a == b) else a == b)), H)
  | _, _ => none
def k_isnil (neg : Bool) (kd : Nat) (x : Rand) (E : Env) (fr : Fr) (H : Heap) (_id : Nat) : Option (PV × Heap) := match nilA kd (krd E fr x) with | some b => some (.d (.b (if neg then !b else b)), H) | none => none
def k_un (op : UnOp) (x : Rand) (E : Env) (fr : Fr) (H : Heap) (_id : Nat) : Option (PV × Heap) := optD (unA op (krd E fr x)) H
def k_conv (k : IntKind) (x : Rand) (E : Env) (fr : Fr) (H : Heap) (_id : Nat) : Option (PV × Heap) := match krd E fr x with | .d (.i _ n) => some (.d (.i k (k.wrap n)), H) | _ => none
def k_slS (x : Rand) (lo : Option Rand) (hi : Option Rand) (E : Env) (fr : Fr) (H : Heap) (_id : Nat) : Option (PV × Heap) := match krd E fr x with
  | .d (.s s) => match bnd s.length s.length (hi.map (krd E fr)) with
   | some h => match bnd 0 h (lo.map (krd E fr)) with
    | some l => some (.d (.s ((s.take h).drop l)), H)
    | none => none
   | none => none
  | _ => none
def k_sl (k : K) (x : Rand) (lo : Option Rand) (hi : Option Rand) (mx : Option Rand) (E : Env) (fr : Fr) (H : Heap) (_id : Nat) : Option (PV × Heap) := opt (slA H k (krd E fr x) (lo.map (krd E fr)) (hi.map (krd E fr)) (mx.map (krd E fr))) H
def k_faddr (off : Nat) (x : Rand) (E : Env) (fr : Fr) (H : Heap) (_id : Nat) : Option (PV × Heap) := opt (kmoveA off (krd E fr x)) H
def k_field (off : Nat) (k : K) (x : Rand) (E : Env) (fr : Fr) (H : Heap) (_id : Nat) : Option (PV × Heap) := opt (fieldA off k (krd E fr x)) H
def k_iaddr (k : K) (x : Rand) (i : Rand) (E : Env) (fr : Fr) (H : Heap) (_id : Nat) : Option (PV × Heap) := opt (kiaddr H k (krd E fr x) (krd E fr i)) H
def k_iaddrA (len : Nat) (k : K) (x : Rand) (i : Rand) (E : Env) (fr : Fr) (H : Heap) (_id : Nat) : Option (PV × Heap) := match asI (krd E fr i) with
  | some n => match inR n len with | some j => opt (kmoveA (j * k.size) (krd E fr x)) H | none => none
  | none => none
def k_idxS (x : Rand) (i : Rand) (E : Env) (fr : Fr) (H : Heap) (_id : Nat) : Option (PV × Heap) := match krd E fr x, asI (krd E fr i) with
  | .d (.s s), some n => if 0 ≤ n then match s[n.toNat]? with
   | some b => some (.d (.i .u8 b.toNat), H)
   | none => none
   else none
  | _, _ => none
def k_idxA (len : Nat) (k : K) (x : Rand) (i : Rand) (E : Env) (fr : Fr) (H : Heap) (_id : Nat) : Option (PV × Heap) := match asI (krd E fr i) with
  | some n => match inR n len with
   | some j => opt (fieldA (j * k.size) k (krd E fr x)) H
   | none => none
  | none => none
def k_len (str : Bool) (x : Rand) (E : Env) (fr : Fr) (H : Heap) (_id : Nat) : Option (PV × Heap) := match klenA H str (krd E fr x) with | some n => some (.d (.i .i64 n), H) | none => none
def k_app (k : K) (bytes : Nat) (x : Rand) (y : Rand) (E : Env) (fr : Fr) (H : Heap) (id : Nat) : Option (PV × Heap) := appA H id k bytes (krd E fr x) (krd E fr y)
def k_call0 (f : Nat) (args : List Rand) (E : Env) (fr : Fr) (H : Heap) (_id : Nat) : Option (PV × Heap) := match purs H (kmap (krd E fr) args) with
  | some (ds, os) => match E.val f ds with
   | some (r, _) => some (r, if os.isEmpty || r.scal then H else frz H os)
   | none => none
  | none => none
def k_call1 (f : Nat) (args : List Rand) (E : Env) (fr : Fr) (H : Heap) (id : Nat) : Option (PV × Heap) := match purs H (kmap (krd E fr) args) with
  | some (ds, os) => match E.val f ds with
   | some (.d (.l k es _), true) => some (.r id k 0 es.length false, (if os.isEmpty then H else frz H os).put id (some (.sl k 0 es)))
   | _ => none
  | none => none
def k_call2 (f : Nat) (args : List Rand) (E : Env) (fr : Fr) (H : Heap) (_id : Nat) : Option (PV × Heap) := E.ref f (kmap (krd E fr) args) H
def k_call (mode f : Nat) (args : List Rand) : Env → Fr → Heap → Nat → Option (PV × Heap) := @Nat.rec (fun _ => Env → Fr → Heap → Nat → Option (PV × Heap)) (k_call0 f args) (fun m _ => @Nat.rec (fun _ => Env → Fr → Heap → Nat → Option (PV × Heap)) (k_call1 f args) (fun _ _ => k_call2 f args) m) mode
def k_callv (x : Rand) (args : List Rand) (E : Env) (fr : Fr) (H : Heap) (_id : Nat) : Option (PV × Heap) := match krd E fr x with
  | .f n caps => match (if caps.isEmpty then plains (kmap (krd E fr) args) else none) with
   | some ds => match E.val n ds with
    | some (r, _) => some (r, H)
    | none => none
   | none => E.ref n (kmap (krd E fr) args ++ caps) H
  | .m n firsts => match plains (firsts ++ kmap (krd E fr) args) with
   | some ds => match E.val n ds with
    | some (r, _) => some (r, H)
    | none => none
   | none => E.ref n (firsts ++ kmap (krd E fr) args) H
  | .h o => E.yld o (kmap (krd E fr) args) H
  | _ => none
def k_ext (x : Rand) (i : Nat) (E : Env) (fr : Fr) (H : Heap) (_id : Nat) : Option (PV × Heap) := match krd E fr x with
  | .t vs => opt vs[i]? H
  | _ => none
def k_mkf (f : Nat) (caps : List Rand) (E : Env) (fr : Fr) (H : Heap) (_id : Nat) : Option (PV × Heap) := some (.f f (kmap (krd E fr) caps), H)
def k_mkm (f : Nat) (caps : List Rand) (E : Env) (fr : Fr) (H : Heap) (_id : Nat) : Option (PV × Heap) := some (.m f (kmap (krd E fr) caps), H)
def k_prim (p : Nat) (args : List Rand) (E : Env) (fr : Fr) (H : Heap) (_id : Nat) : Option (PV × Heap) := opt (primA p (kmap (krd E fr) args)) H
def k_nilck (x : Rand) (E : Env) (fr : Fr) (H : Heap) (_id : Nat) : Option (PV × Heap) := match krd E fr x with
  | .p o i c => some (.p o i c, H)
  | .q v k c => some (.q v k c, H)
  | .f n cs => some (.f n cs, H)
  | _ => none
def k_mksl (k : K) (bytes : Nat) (z : DV) (len : Rand) (cap : Rand) (E : Env) (fr : Fr) (H : Heap) (id : Nat) : Option (PV × Heap) := match asI (krd E fr len), asI (krd E fr cap) with
  | some n, some c => if 0 ≤ n ∧ n ≤ c ∧ c * bytes ≤ 2 ^ 47 then some (.r id k 0 n.toNat false, H.put id (some (.sl k 0 (List.replicate n.toNat z)))) else none
  | _, _ => none
def k_minmax (mx : Bool) (args : List Rand) (E : Env) (fr : Fr) (H : Heap) (_id : Nat) : Option (PV × Heap) := match kmap (krd E fr) args with
  | v :: r => opt (mmA mx v r) H
  | [] => none
def k_copy (k : K) (x : Rand) (y : Rand) (E : Env) (fr : Fr) (H : Heap) (_id : Nat) : Option (PV × Heap) := match krd E fr x with
  | .r o k' off len _ => match kobj H o, elemsA H k (krd E fr y) with
   | some (.sl k'' ro es), some ys =>
    if K.eq k k' && K.eq k k'' && decide (off + len ≤ es.length) && decide (ro ≤ off) then
     let n := min ys.length len
     some (.d (.i .i64 n), H.put o (some (.sl k ro (putAt es off (ys.take n)))))
    else none
   | _, _ => none
  | _ => none
def k_clr (k : K) (z : DV) (x : Rand) (E : Env) (fr : Fr) (H : Heap) (_id : Nat) : Option (PV × Heap) := match krd E fr x with
  | .r o k' off len _ => match kobj H o with
   | some (.sl k'' ro es) =>
    if K.eq k k' && K.eq k k'' && decide (off + len ≤ es.length) && decide (ro ≤ off) then some (.t [], H.put o (some (.sl k ro (putAt es off (List.replicate len z))))) else none
   | _ => none
  | .d (.l _ [] _) => some (.t [], H)
  | _ => none
def k_mkif (t : Nat) (x : Rand) (E : Env) (fr : Fr) (H : Heap) (_id : Nat) : Option (PV × Heap) := match pur H (krd E fr x) with
  | some (v, os) => some (.d (.ifc t v), frz H os)
  | none => some (.w t (krd E fr x), H)
def k_tas (t : Nat) (z : DV) (ok : Bool) (x : Rand) (E : Env) (fr : Fr) (H : Heap) (_id : Nat) : Option (PV × Heap) := match krd E fr x with
  | .d (.ifc u v) => if u = t then some (if ok then .t [.d v, .d (.b true)] else .d v, H) else if ok then some (.t [.d z, .d (.b false)], H) else none
  | .w u v => if u = t then some (if ok then .t [v, .d (.b true)] else v, H) else if ok then some (.t [.d z, .d (.b false)], H) else none
  | .d .ni => if ok then some (.t [.d z, .d (.b false)], H) else none
  | _ => none
def k_invk (tab : List (Nat × Nat × Nat)) (x : Rand) (args : List Rand) (E : Env) (fr : Fr) (H : Heap) (_id : Nat) : Option (PV × Heap) := match krd E fr x with
  | .d (.ifc u v) => match lookT u tab with
   | some (0, f) => match purs H (kmap (krd E fr) args) with
    | some (ds, os) => match E.val f (v :: ds) with
     | some (r, _) => some (r, if os.isEmpty || r.scal then H else frz H os)
     | none => none
    | none => none
   | some (_, f) => E.ref f (.d v :: kmap (krd E fr) args) H
   | none => none
  | _ => none
def k_mkmap  (_E : Env) (_fr : Fr) (H : Heap) (id : Nat) : Option (PV × Heap) := some (.h id, H.put id (some (.mp [])))
def k_mget (ky : Ky) (z : DV) (ok : Bool) (x : Rand) (i : Rand) (E : Env) (fr : Fr) (H : Heap) (_id : Nat) : Option (PV × Heap) := match krd E fr i, krd E fr x with
  | .d k, .h o => if kyOK ky k then match kobj H o with
   | some (.mp es) => match getK k es with
    | some r => some (if ok then .t [.d (r.getD z), .d (.b r.isSome)] else .d (r.getD z), H)
    | none => none
   | _ => none
   else none
  | _, _ => none
def k_mset (ky : Ky) (x : Rand) (i : Rand) (v : Rand) (E : Env) (fr : Fr) (H : Heap) (_id : Nat) : Option (PV × Heap) := match krd E fr i, krd E fr x, pur H (krd E fr v) with
  | .d k, .h o, some (xv, os) => if kyOK ky k then match kobj H o with
   | some (.mp es) => match putK k xv es with
    | some es' => some (.u, (frz H os).put o (some (.mp es')))
    | none => none
   | _ => none
   else none
  | _, _, _ => none
def k_mdel (ky : Ky) (x : Rand) (i : Rand) (E : Env) (fr : Fr) (H : Heap) (_id : Nat) : Option (PV × Heap) := match krd E fr i, krd E fr x with
  | .d k, .h o => if kyOK ky k then match kobj H o with
   | some (.mp es) => match delK k es with
    | some es' => some (.u, H.put o (some (.mp es')))
    | none => none
   | _ => none
   else none
  | _, _ => none
def k_mlen (x : Rand) (E : Env) (fr : Fr) (H : Heap) (_id : Nat) : Option (PV × Heap) := match krd E fr x with
  | .h o => match kobj H o with
   | some (.mp es) => some (.d (.i .i64 es.length), H)
   | _ => none
  | _ => none
def k_rngS (x : Rand) (E : Env) (fr : Fr) (H : Heap) (id : Nat) : Option (PV × Heap) := match krd E fr x with
  | .d (.s l) => some (.h id, H.put id (some (.si l 0)))
  | _ => none
def k_nxt (x : Rand) (E : Env) (fr : Fr) (H : Heap) (_id : Nat) : Option (PV × Heap) := match krd E fr x with
  | .h o => match kobj H o with
   | some (.si l pos) =>
    if pos < l.length then
     let c := Utf8.decode ⟨l.toArray⟩ pos
     some (.t [.d (.b true), .d (.i .i64 pos), .d (.i .i32 c.1)], H.put o (some (.si l (pos + c.2))))
    else some (.t [.d (.b false)], H)
   | _ => none
  | _ => none
def k_sb (x : Rand) (E : Env) (fr : Fr) (H : Heap) (_id : Nat) : Option (PV × Heap) := match krd E fr x with
  | .d (.s _) => none
  | y => match elemsA H none y with
   | some es => match dbytes es with | some l => some (.d (.s l), H) | none => none
   | none => none
def k_bs (x : Rand) (E : Env) (fr : Fr) (H : Heap) (_id : Nat) : Option (PV × Heap) := match krd E fr x with
  | .d (.s l) => some (.d (.l none (bytesOf l) false), H)
  | _ => none
def k_dfr (x : Rand) (y : Rand) (E : Env) (fr : Fr) (H : Heap) (_id : Nat) : Option (PV × Heap) := match krd E fr x, krd E fr y with
  | .f n caps, .u => some (.g (.f n caps), H)
  | _, _ => none
def k_bad  (_E : Env) (_fr : Fr) (_H : Heap) (_id : Nat) : Option (PV × Heap) := none
def kop (op : IOp) : Env → Fr → Heap → Nat → Option (PV × Heap) := @IOp.rec (fun _ => Env → Fr → Heap → Nat → Option (PV × Heap)) k_mov k_pick k_alloc k_box k_agg k_bsl k_load k_store k_bin k_eqv k_eqb k_isnil k_un k_conv k_slS k_sl k_faddr k_field k_iaddr k_iaddrA k_idxS k_idxA k_len k_app k_call k_callv k_ext k_mkf k_mkm k_prim k_nilck k_mksl k_minmax k_copy k_clr k_mkif k_tas k_invk k_mkmap k_mget k_mset k_mdel k_mlen k_rngS k_nxt k_sb k_bs k_dfr k_bad op
theorem kop_eq (op : IOp) (E : Env) (fr : Fr) (H : Heap) (id : Nat) : kop op E fr H id = evalOp E (rd E fr) H id op := by
 rw [← krd_eq]
 have ko : kobj = Heap.obj := by funext H o; exact kobj_eq H o
 cases op with
 | mov x => show k_mov x E fr H id = _; simp only [k_mov, evalOp] <;> rfl
 | pick c a b => show k_pick c a b E fr H id = _; simp only [k_pick, evalOp] <;> rfl
 | alloc k z => show k_alloc k z E fr H id = _; simp only [k_alloc, evalOp] <;> rfl
 | box k x => show k_box k x E fr H id = _; simp only [k_box, evalOp] <;> rfl
 | agg z parts => show k_agg z parts E fr H id = _; simp only [k_agg, evalOp] <;> rfl
 | bsl k z len parts => show k_bsl k z len parts E fr H id = _; simp only [k_bsl, evalOp] <;> rfl
 | load k x => show k_load k x E fr H id = _; simp only [k_load, evalOp, kloadA] <;> rfl
 | store k x y => show k_store k x y E fr H id = _; simp only [k_store, evalOp, kstoreA] <;> rfl
 | bin op x y => show k_bin op x y E fr H id = _; simp only [k_bin, evalOp, kbinA] <;> rfl
 | eqv neg n x y => show k_eqv neg n x y E fr H id = _; simp only [k_eqv, evalOp] <;> rfl
 | eqb neg x y => show k_eqb neg x y E fr H id = _; simp only [k_eqb, evalOp] <;> rfl
 | isnil neg kd x => show k_isnil neg kd x E fr H id = _; simp only [k_isnil, evalOp] <;> rfl
 | un op x => show k_un op x E fr H id = _; simp only [k_un, evalOp] <;> rfl
 | conv k x => show k_conv k x E fr H id = _; simp only [k_conv, evalOp] <;> rfl
 | slS x lo hi => show k_slS x lo hi E fr H id = _; simp only [k_slS, evalOp] <;> rfl
 | sl k x lo hi mx => show k_sl k x lo hi mx E fr H id = _; simp only [k_sl, evalOp] <;> rfl
 | faddr off x => show k_faddr off x E fr H id = _; simp only [k_faddr, evalOp, kmoveA] <;> rfl
 | field off k x => show k_field off k x E fr H id = _; simp only [k_field, evalOp] <;> rfl
 | iaddr k x i => show k_iaddr k x i E fr H id = _; simp only [k_iaddr, evalOp, kiaddr] <;> rfl
 | iaddrA len k x i => show k_iaddrA len k x i E fr H id = _; simp only [k_iaddrA, evalOp, kmoveA] <;> rfl
 | idxS x i => show k_idxS x i E fr H id = _; simp only [k_idxS, evalOp] <;> rfl
 | idxA len k x i => show k_idxA len k x i E fr H id = _; simp only [k_idxA, evalOp] <;> rfl
 | len str x => show k_len str x E fr H id = _; simp only [k_len, evalOp, klenA] <;> rfl
 | app k bytes x y => show k_app k bytes x y E fr H id = _; simp only [k_app, evalOp] <;> rfl
 | call m f args => match m with
  | 0 => show k_call0 f args E fr H id = _; simp only [k_call0, evalOp, kmap_eq] <;> rfl
  | 1 => show k_call1 f args E fr H id = _; simp only [k_call1, evalOp, kmap_eq] <;> rfl
  | m + 2 => show k_call2 f args E fr H id = _; simp only [k_call2, evalOp, kmap_eq] <;> rfl
 | callv x args => show k_callv x args E fr H id = _; simp only [k_callv, evalOp, kmap_eq] <;> rfl
 | ext x i => show k_ext x i E fr H id = _; simp only [k_ext, evalOp] <;> rfl
 | mkf f caps => show k_mkf f caps E fr H id = _; simp only [k_mkf, evalOp, kmap_eq] <;> rfl
 | mkm f caps => show k_mkm f caps E fr H id = _; simp only [k_mkm, evalOp, kmap_eq] <;> rfl
 | prim p args => show k_prim p args E fr H id = _; simp only [k_prim, evalOp, kmap_eq] <;> rfl
 | nilck x => show k_nilck x E fr H id = _; simp only [k_nilck, evalOp] <;> rfl
 | mksl k bytes z len cap => show k_mksl k bytes z len cap E fr H id = _; simp only [k_mksl, evalOp] <;> rfl
 | minmax mx args => show k_minmax mx args E fr H id = _; simp only [k_minmax, evalOp, kmap_eq] <;> rfl
 | copy k x y => show k_copy k x y E fr H id = _; simp only [k_copy, evalOp, ko] <;> rfl
 | clr k z x => show k_clr k z x E fr H id = _; simp only [k_clr, evalOp, ko] <;> rfl
 | mkif t x => show k_mkif t x E fr H id = _; simp only [k_mkif, evalOp] <;> rfl
 | tas t z ok x => show k_tas t z ok x E fr H id = _; simp only [k_tas, evalOp] <;> rfl
 | invk tab x args => show k_invk tab x args E fr H id = _; simp only [k_invk, evalOp, kmap_eq] <;> rfl
 | mkmap  => show k_mkmap  E fr H id = _; simp only [k_mkmap, evalOp] <;> rfl
 | mget ky z ok x i => show k_mget ky z ok x i E fr H id = _; simp only [k_mget, evalOp, ko] <;> rfl
 | mset ky x i v => show k_mset ky x i v E fr H id = _; simp only [k_mset, evalOp, ko] <;> rfl
 | mdel ky x i => show k_mdel ky x i E fr H id = _; simp only [k_mdel, evalOp, ko] <;> rfl
 | mlen x => show k_mlen x E fr H id = _; simp only [k_mlen, evalOp, ko] <;> rfl
 | rngS x => show k_rngS x E fr H id = _; simp only [k_rngS, evalOp] <;> rfl
 | nxt x => show k_nxt x E fr H id = _; simp only [k_nxt, evalOp, ko] <;> rfl
 | sb x => show k_sb x E fr H id = _; simp only [k_sb, evalOp] <;> rfl
 | bs x => show k_bs x E fr H id = _; simp only [k_bs, evalOp] <;> rfl
 | dfr x y => show k_dfr x y E fr H id = _; simp only [k_dfr, evalOp] <;> rfl
 | bad  => show k_bad  E fr H id = _; simp only [k_bad, evalOp] <;> rfl
def kdst (d : Option Nat) (fr : Fr) (v : PV) : Fr := @Option.rec Nat (fun _ => Fr) fr (fun t => kset fr t v) d
abbrev KCf := Env → Nat → Fr → Heap → Option St
def kadd (op : IOp) (id : Nat) : Nat := @Bool.rec (fun _ => Nat) id (Nat.succ id) op.adds
def kgo (dst : Option Nat) (op : IOp) (ih : KCf) (E : Env) (id : Nat) (fr : Fr) (H : Heap) : Option St := @Option.rec (PV × Heap) (fun _ => Option St) none (fun p => @Prod.rec PV Heap (fun _ => Option St) (fun v H' => ih E (kadd op id) (kdst dst fr v) H') p) (kop op E fr H id)
def kno (dst : Option Nat) (op : IOp) (ih : KCf) (E : Env) (id : Nat) (fr : Fr) (H : Heap) : Option St := ih E (kadd op id) (kdst dst fr (.t [])) H
def kguard (v : PV) (want : Bool) (go no : Option St) : Option St := match v with
 | .d (.b b) => if b == want then go else no
 | .t [] => no
 | _ => none
def kstep (dst : Option Nat) (op : IOp) (g : Option (Nat × Bool)) (ih : KCf) (E : Env) (id : Nat) (fr : Fr) (H : Heap) : Option St :=
 @Option.rec (Nat × Bool) (fun _ => Option St) (kgo dst op ih E id fr H) (fun p => @Prod.rec Nat Bool (fun _ => Option St) (fun t want => kguard (kget fr t) want (kgo dst op ih E id fr H) (kno dst op ih E id fr H)) p) g
def kops (l : List IOper) : KCf := @List.rec IOper (fun _ => KCf) (fun _ _ fr H => some ⟨fr, H⟩) (fun o _ ih => @IOper.rec (fun _ => KCf) (fun dst op g => kstep dst op g ih) o) l
def sdst (d : Option Nat) (fr : Fr) (v : PV) : Fr := match d with | some t => fr.set t v | none => fr
theorem kops_eq (E : Env) : ∀ (l : List IOper) (id : Nat) (fr : Fr) (H : Heap), kops l E id fr H = evalOps E l id ⟨fr, H⟩
 | [], id, fr, H => rfl
 | ⟨dst, op, g⟩ :: r, id, fr, H => by
  have ih := kops_eq E r
  have hadd : kadd op id = if op.adds then id + 1 else id := by unfold kadd; cases op.adds <;> rfl
  have hd : ∀ v, kdst dst fr v = sdst dst fr v := by intro v; cases dst <;> simp [kdst, kset_eq, sdst]
  have hgo : kgo dst op (kops r) E id fr H = match evalOp E (rd E fr) H id op with | some (v, H') => evalOps E r (if op.adds then id + 1 else id) ⟨sdst dst fr v, H'⟩ | none => none := by
   unfold kgo
   rw [kop_eq]
   cases h : evalOp E (rd E fr) H id op with
   | none => rfl
   | some p => obtain ⟨v, H'⟩ := p; show kops r E _ _ _ = _; rw [ih, hadd, hd]
  have hno : kno dst op (kops r) E id fr H = evalOps E r (if op.adds then id + 1 else id) ⟨sdst dst fr (.t []), H⟩ := by
   unfold kno; rw [ih, hadd, hd]
  show kstep dst op g (kops r) E id fr H = _
  unfold kstep
  rw [evalOps, hgo, hno]
  cases g with
  | none => cases dst <;> rfl
  | some p =>
   obtain ⟨t, want⟩ := p
   show kguard (kget fr t) want _ _ = _
   rw [kget_eq]
   cases dst <;> rfl
def kreg (ops : List IOper) (kill : List Nat) (E : Env) (fr : Fr) (H : Heap) : Option St := @Option.rec St (fun _ => Option St) none (fun s => @St.rec (fun _ => Option St) (fun fr' H' => some ⟨kdrop kill fr', H'⟩) s) (kops ops E (klen H) fr (kapp H (krep none (nadds ops) [])))
theorem kreg_eq (ops : List IOper) (kill : List Nat) (E : Env) (fr : Fr) (H : Heap) : kreg ops kill E fr H = evalReg E ops kill ⟨fr, H⟩ := by
 unfold kreg evalReg
 rw [kops_eq, klen_eq, kapp_eq, krep_eq, List.append_nil]
 cases evalOps E ops H.length ⟨fr, H ++ List.replicate (nadds ops) none⟩ with
 | none => rfl
 | some s => obtain ⟨fr', H'⟩ := s; show some _ = _; rw [kdrop_eq]
abbrev KR := Env → ((St → Res) → St → Res) → Nat → Fr → Heap → Res
def kthen (r : Res) (f : Fr → Heap → Res) : Res := @Option.rec (Ex × St) (fun _ => Res) none (fun p => @Prod.rec Ex St (fun _ => Res) (fun e s => @Ex.rec (fun _ => Res) (@St.rec (fun _ => Res) f s) (fun j => some (.exit j, s)) (some (.ret, s)) e) p) r
def kc_skip : KR := fun _ _ _ fr H => some (.norm, ⟨fr, H⟩)
def kc_reg (ops : List IOper) (kill : List Nat) : KR := fun E _ _ fr H => @Option.rec St (fun _ => Res) none (fun s => some (.norm, s)) (kreg ops kill E fr H)
def kc_regD (ops : List IOper) (bf kill : List Nat) : KR := fun E _ _ fr H => match evalRegD E ops bf kill ⟨fr, H⟩ with | some s' => some (.norm, s') | none => none
def kc_seq (_ _ : PC) (a b : KR) : KR := fun E lp base fr H => kthen (a E lp base fr H) fun fr H => b E lp base fr H
def kc_cond (c : Rand) (_ _ : PC) (x y : KR) : KR := fun E lp base fr H => match krd E fr c with
 | .d (.b true) => x E lp base fr H
 | .d (.b false) => y E lp base fr H
 | _ => none
def kblk (id : Nat) (r : Res) : Res := @Option.rec (Ex × St) (fun _ => Res) none (fun p => @Prod.rec Ex St (fun _ => Res) (fun e s => @Ex.rec (fun _ => Res) (some (.norm, s)) (fun j => @Bool.rec (fun _ => Res) (some (.exit j, s)) (some (.norm, s)) (Nat.beq j id)) (some (.ret, s)) e) p) r
def kc_block (id : Nat) (_ : PC) (x : KR) : KR := fun E lp base fr H => kblk id (x E lp base fr H)
def kround (live : List Nat) (x : KR) (E : Env) (lp : (St → Res) → St → Res) (base : Nat) (s : St) : Res := @St.rec (fun _ => Res) (fun fr H => x E lp base fr H) (gc live base s)
def kc_loop (live : List Nat) (_ : PC) (x : KR) : KR := fun E lp base fr H => lp (kround live x E lp base) ⟨fr, H⟩
def kc_rng (f : Rand) (g : Nat) (ps live : List Nat) (a x : PC) (_ _ : KR) : KR := fun E lp base fr H => evalC E lp base (.rng f g ps live a x) ⟨fr, H⟩
def kc_exit (id : Nat) : KR := fun _ _ _ fr H => some (.exit id, ⟨fr, H⟩)
def kc_ret : KR := fun _ _ _ fr H => some (.ret, ⟨fr, H⟩)
def kc_bad : KR := fun _ _ _ _ _ => none
def kev (c : PC) : KR := @PC.rec (fun _ => KR) kc_skip kc_reg kc_regD kc_seq kc_cond kc_block kc_loop kc_rng kc_exit kc_ret kc_bad c
theorem kev_eq (E : Env) (lp : (St → Res) → St → Res) (base : Nat) : ∀ (c : PC) (fr : Fr) (H : Heap), kev c E lp base fr H = evalC E lp base c ⟨fr, H⟩ := by
 intro c
 induction c with
 | skip => intro fr H; rfl
 | reg ops kill =>
  intro fr H
  show @Option.rec St (fun _ => Res) none (fun s => some (.norm, s)) (kreg ops kill E fr H) = _
  rw [kreg_eq, evalC]; cases evalReg E ops kill ⟨fr, H⟩ <;> rfl
 | regD ops bf kill => intro fr H; rfl
 | seq a b iha ihb =>
  intro fr H
  show kthen (kev a E lp base fr H) (fun fr H => kev b E lp base fr H) = _
  rw [iha, evalC]
  cases evalC E lp base a ⟨fr, H⟩ with
  | none => rfl
  | some p =>
   obtain ⟨e, s⟩ := p
   cases e with
   | norm => obtain ⟨fr', H'⟩ := s; exact ihb fr' H'
   | exit j => rfl
   | ret => rfl
 | cond c x y ihx ihy =>
  intro fr H
  show kc_cond c x y (kev x) (kev y) E lp base fr H = _
  unfold kc_cond
  rw [krd_eq, evalC, ihx, ihy]
  rfl
 | block id x ih =>
  intro fr H
  show kblk id (kev x E lp base fr H) = _
  rw [ih, evalC]
  cases evalC E lp base x ⟨fr, H⟩ with
  | none => rfl
  | some p =>
   obtain ⟨e, s⟩ := p
   cases e with
   | norm => rfl
   | exit j =>
    show @Bool.rec (fun _ => Res) (some (.exit j, s)) (some (.norm, s)) (Nat.beq j id) = if j == id then _ else _
    have : (j == id) = Nat.beq j id := by by_cases h : j = id; · { subst h; rw [Nat.beq_refl]; simp }; · { rw [beq_ne h]; simpa using h }
    rw [this]
    cases Nat.beq j id <;> rfl
   | ret => rfl
 | loop live x ih =>
  intro fr H
  show lp (kround live (kev x) E lp base) ⟨fr, H⟩ = _
  rw [evalC]
  congr 1
  funext s
  exact ih _ _
 | rng f g ps live a x iha ihx => intro fr H; rfl
 | exit id => intro fr H; rfl
 | ret => intro fr H; rfl
 | bad => intro fr H; rfl
def klp (n : Nat) : (St → Res) → St → Res := @Nat.rec (fun _ => (St → Res) → St → Res) (fun _ _ => none) (fun _ ih f s => @Option.rec (Ex × St) (fun _ => Res) none (fun p => @Prod.rec Ex St (fun _ => Res) (fun e s' => @Ex.rec (fun _ => Res) (ih f s') (fun j => some (.exit j, s')) (some (.ret, s')) e) p) (f s)) n
theorem klp_eq : ∀ n, klp n = lpN n
 | 0 => rfl
 | n + 1 => by
  funext f s
  have ih := klp_eq n
  show @Option.rec (Ex × St) (fun _ => Res) none (fun p => @Prod.rec Ex St (fun _ => Res) (fun e s' => @Ex.rec (fun _ => Res) (klp n f s') (fun j => some (.exit j, s')) (some (.ret, s')) e) p) (f s) = _
  rw [ih, lpN]
  cases f s with
  | none => rfl
  | some p => obtain ⟨e, s'⟩ := p; cases e <;> rfl
def kfin (E : Env) (rs : List RV) (s : St) : Option (PV × Heap) := match runG E (ghosts s.fr) s.H with
   | some H' => match results s.fr H' rs with
    | some vs => some (packed vs, H')
    | none => none
   | none => none
def kend (E : Env) (rs : List RV) (r : Res) : Option (PV × Heap) := @Option.rec (Ex × St) (fun _ => Option (PV × Heap)) none (fun p => @Prod.rec Ex St (fun _ => Option (PV × Heap)) (fun e s => @Ex.rec (fun _ => Option (PV × Heap)) (kfin E rs s) (fun _ => none) (kfin E rs s) e) p) r
def kargs : List PV → Nat → Fr := fun l => @List.rec PV (fun _ => Nat → Fr) (fun _ => []) (fun v _ ih j => kapp (ih (Nat.succ j)) [(j, v)]) l
theorem kargs_eq : ∀ (l : List PV) (j : Nat), kargs l j = Fr.ofArgs j l
 | [], j => rfl
 | v :: r, j => by show kapp (kargs r (j + 1)) [(j, v)] = _; rw [kapp_eq, kargs_eq r, Fr.ofArgs]
def kfn (E : Env) (lp : (St → Res) → St → Res) (F : PF) (args : List PV) (H : Heap) : Option (PV × Heap) := @PF.rec (fun _ => Option (PV × Heap)) (fun nargs rs body => @Bool.rec (fun _ => Option (PV × Heap)) none (kend E rs (kev body E lp (klen H) (kargs args 0) H)) (Nat.beq (klen args) nargs)) F
theorem kfn_eq (E : Env) (lp : (St → Res) → St → Res) (F : PF) (args : List PV) (H : Heap) : kfn E lp F args H = evalF E lp F args H := by
 obtain ⟨nargs, rs, body⟩ := F
 show @Bool.rec (fun _ => Option (PV × Heap)) none (kend E rs (kev body E lp (klen H) (kargs args 0) H)) (Nat.beq (klen args) nargs) = _
 rw [klen_eq, klen_eq, kev_eq, kargs_eq]
 unfold evalF
 by_cases h : args.length = nargs
 ·rw [if_pos h, h, Nat.beq_refl]
  show kend E rs (evalC E lp H.length body ⟨Fr.ofArgs 0 args, H⟩) = _
  cases evalC E lp H.length body ⟨Fr.ofArgs 0 args, H⟩ with
  | none => rfl
  | some p => obtain ⟨e, s⟩ := p; cases e <;> rfl
 ·rw [if_neg h, beq_ne h]
abbrev KY := Nat → List PV → Heap → Option (PV × Heap)
structure KP where
 it : KY → KY
 val : Nat → List DV → Option (PV × Bool)
def kitF (E : Env) (lp : (St → Res) → St → Res) (args : List PV) (H : Heap) (F : PF) : Option (PV × Heap) := @Option.rec (PV × Heap) (fun _ => Option (PV × Heap)) none (fun p => @Prod.rec PV Heap (fun _ => Option (PV × Heap)) (fun v H' => some (gcV (klen H) v H')) p) (kfn E lp F args H)
def kit (T : Tab) (n : Nat) (P : KP) (Y : KY) (f : Nat) (args : List PV) (H : Heap) : Option (PV × Heap) := @Option.rec PF (fun _ => Option (PV × Heap)) (T.R f args H) (kitF ⟨T.G, P.it noY, P.val, Y, P.it, T.dok⟩ (klp n) args H) (T.F f)
def kvalF (E : Env) (lp : (St → Res) → St → Res) (args : List DV) (F : PF) : Option (PV × Bool) := @Option.rec (PV × Heap) (fun _ => Option (PV × Bool)) none (fun p => @Prod.rec PV Heap (fun _ => Option (PV × Bool)) (fun v H' => purT H' v) p) (kfn E lp F (kmap .d args) [])
def kval (T : Tab) (n : Nat) (P : KP) (f : Nat) (args : List DV) : Option (PV × Bool) := @Option.rec PF (fun _ => Option (PV × Bool)) (T.X f args) (kvalF ⟨T.G, P.it noY, P.val, noY, P.it, T.dok⟩ (klp n) args) (T.F f)
def kN (T : Tab) (n : Nat) : KP := @Nat.rec (fun _ => KP) ⟨fun _ _ _ _ => none, fun _ _ => none⟩ (fun n P => ⟨kit T n P, kval T n P⟩) n
theorem kN_eq (T : Tab) : ∀ n, (kN T n).it = itN T n ∧ (kN T n).val = valN T n
 | 0 => ⟨by funext Y f a H; rw [itN]; rfl, by funext f a; rw [valN]; rfl⟩
 | n + 1 => by
  obtain ⟨h1, h2⟩ := kN_eq T n
  constructor
  ·funext Y f a H
   show kit T n (kN T n) Y f a H = _
   rw [itN_succ]
   unfold kit
   cases T.F f with
   | none => rfl
   | some F =>
    show kitF _ (klp n) a H F = _
    unfold kitF
    rw [h1, h2, klp_eq, kfn_eq, klen_eq]
    show @Option.rec (PV × Heap) (fun _ => Option (PV × Heap)) none _ (evalF (envY T n Y) (lpN n) F a H) = _
    dsimp only
    cases evalF (envY T n Y) (lpN n) F a H with
    | none => rfl
    | some p => rfl
  ·funext f a
   show kval T n (kN T n) f a = _
   rw [valN_succ]
   unfold kval
   cases T.F f with
   | none => rfl
   | some F =>
    show kvalF _ (klp n) a F = _
    unfold kvalF
    rw [h1, h2, klp_eq, kfn_eq, kmap_eq]
    show @Option.rec (PV × Heap) (fun _ => Option (PV × Bool)) none _ (evalF (envN T n) (lpN n) F (a.map .d) []) = _
    dsimp only
    cases evalF (envN T n) (lpN n) F (a.map .d) [] with
    | none => rfl
    | some p => rfl
theorem val_run {T : Tab} {f : Nat} {args : List DV} {r : PV × Bool} (n : Nat) (h : (kN T n).val f args = some r) : T.val f args = some r := (val_some T f args r).2 ⟨n, by rw [← (kN_eq T n).2]; exact h⟩
end
end Go.Sim
end
