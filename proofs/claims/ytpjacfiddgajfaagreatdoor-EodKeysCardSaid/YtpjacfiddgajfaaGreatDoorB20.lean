/- Part 20 of the proof: CbLaw52. -/
import Derived.Test.YtpjacfiddgajfaaGreatDoorB16
import Derived.Test.YtpjacfiddgajfaaGreatDoorB19
open Go Go.Sim Go.RowKit
namespace Go.Proofs.YtpjacfiddgajfaaGreatDoor
set_option maxRecDepth 100000
theorem gok {W : World} {laid : List (String × DataW Unit)} (h : laidMet Tryz.prog laid W) (hm0 : ("internal/strconv.uint64pow10", (.agg (Lib.pow10Tab.map fun z => .lit (.int .u64 z)) : DataW Unit)) ∈ laid) : GOK nm TA52m1.G W (Live W) := by
 refine gok_of (gs := gsL) (by kernel_rfl) ?_
 intro x hx v k hv
 simp only [glL, List.mem_cons, List.not_mem_nil, or_false] at hx
 rcases hx with rfl | rfl | rfl
 ·have hv : (some (DV.a (Lib.pow10Tab.map fun z => DV.i .u64 z), (some 20 : K))) = some (v, k) := hv
  cases hv
  exact gok_ints h hm0 (by kernel_rfl : Tryz.prog.globalNamed "internal/strconv.uint64pow10" = some 0) (by kernel_rfl : (Tryz.prog.globals[0]?).map (·.type) = some 280) Tryz.underlying280 Tryz.underlying68 (by kernel_rfl) (by kernel_rfl) (by decide)
 ·have hv : (none : Option (DV × K)) = some (v, k) := hv
  cases hv
 ·have hv : (none : Option (DV × K)) = some (v, k) := hv
  cases hv
theorem inI_of {n : Int} (h : (Lit.int .i64 n).wf = true) : inI n := by
 simp [Lit.wf] at h
 unfold inI
 first | exact h | (simp [IntKind.inRange] at h; exact h) | omega
theorem law (W : World) (v0 v1 v2 : Value) (d0 d1 d2 : DV) (xs0 xs1 xs2 : List DV) (e0 : mkD none xs0 = some d0) (e1 : mkD (some 2) xs1 = some d1) (e2 : mkD none xs2 = some d2)
  (h0 : HasL [.i .i64] xs0) (h1 : HasL [.i .i64, .i .i64] xs1) (h2 : HasL [.i .i64] xs2)
  (r0 : RelD W (Live W) d0 v0) (r1 : RelD W (Live W) d1 v1) (r2 : RelD W (Live W) d2 v2) (hg : GOK nm TA52m1.G W (Live W)) :
  Calls Tryz.prog 3 #[v0, v1, v2] W fun e W' => e = .returned (.bool true) ∧ Below W.heap.size W W' := by
 obtain rfl := mkD_none e0
 obtain ⟨_, _, g0, h0, -⟩ := hasL_cons h0
 cases g0
 obtain ⟨x0, rfl, p0⟩ := has_i h0
 have o0 := inI_of p0
 obtain rfl := mkD_some e1
 obtain ⟨_, _, rfl, k1_0, h1⟩ := hasL_cons h1
 obtain ⟨_, _, rfl, k1_1, h1⟩ := hasL_cons h1
 obtain rfl := hasL_nil h1
 obtain ⟨y1_0, rfl, q1_0⟩ := has_i k1_0
 have o1_0 := inI_of q1_0
 obtain ⟨y1_1, rfl, q1_1⟩ := has_i k1_1
 have o1_1 := inI_of q1_1
 obtain rfl := mkD_none e2
 obtain ⟨_, _, g2, h2, -⟩ := hasL_cons h2
 cases g2
 obtain ⟨x2, rfl, p2⟩ := has_i h2
 have o2 := inI_of p2
 exact law_calls tok (val_keys x0 y1_0 y1_1 x2 o0 o1_0 o1_1 o2) (us := [v0, v1, v2]) (Live.swf W) hg rfl (fun j hj hj' => by
  match j, hj with
  | 0, _ => exact r0
  | 1, _ => exact r1
  | 2, _ => exact r2)
end Go.Proofs.YtpjacfiddgajfaaGreatDoor

