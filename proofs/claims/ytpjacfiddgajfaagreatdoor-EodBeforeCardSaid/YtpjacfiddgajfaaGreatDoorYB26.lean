/- Part 26 of the proof: CbLaw52Y. -/
import Derived.Test.YtpjacfiddgajfaaGreatDoorYB19
import Derived.Test.YtpjacfiddgajfaaGreatDoorYB25
import Derived.Test.YtpjacfiddgajfaaGreatDoorYB20
open Go Go.Sim Go.RowKit
namespace Go.Proofs.YtpjacfiddgajfaaGreatDoor
set_option maxRecDepth 100000
theorem gok {W : World} {laid : List (String × DataW Unit)} (h : laidMet Tryz.prog laid W) (hm0 : ("internal/strconv.uint64pow10", (.agg (Lib.pow10Tab.map fun z => .lit (.int .u64 z)) : DataW Unit)) ∈ laid) : GOK nm TA52Ym2.G W (Live W) := by
 refine gok_of (gs := gsL) (by kernel_rfl) ?_
 intro x hx v k hv
 simp only [glL, List.mem_cons, List.not_mem_nil, or_false] at hx
 rcases hx with rfl | rfl | rfl
 ·have hv : (some (DV.a (Lib.pow10Tab.map fun z => DV.i .u64 z), (some 20 : K))) = some (v, k) := hv
  cases hv
  exact gok_ints h hm0 (by kernel_rfl : Tryz.prog.globalNamed "internal/strconv.uint64pow10" = some 0) (by kernel_rfl : (Tryz.prog.globals[0]?).map (·.type) = some 280) Tryz.underlying280 Tryz.underlying68 (by kernel_rfl) (by kernel_rfl) (by decide)
 ·have hv : (none : Option (DV × K)) = some (v, k) := hv
  cases hv
 ·have hv : (none : Option (DV × K)) = some (v, k) := hv
  cases hv
theorem law (W : World) (v0 v1 : Value) (d0 d1 : DV) (xs0 xs1 : List DV) (e0 : mkD (some 42) xs0 = some d0) (e1 : mkD (some 2) xs1 = some d1)
  (h0 : HasL ABank.ty xs0) (h1 : HasL ATask.ty xs1)
  (r0 : RelD W (Live W) d0 v0) (r1 : RelD W (Live W) d1 v1) (hg : GOK nm TA52Ym2.G W (Live W)) :
  Calls Tryz.prog 4 #[v0, v1] W fun e W' => e = .returned (.bool true) ∧ Below W.heap.size W W' := by
 obtain rfl := mkD_some e0
 obtain ⟨x0, ex0, o0, f0⟩ := ABank.ofB xs0 h0
 rw [ex0] at r0
 obtain rfl := mkD_some e1
 obtain ⟨x1, ex1, o1, f1⟩ := ATask.ofB xs1 h1
 rw [ex1] at r1
 exact law_calls tok (law52Y x0 x1 o0 f0 o1) (us := [v0, v1]) (Live.swf W) hg rfl (fun j hj hj' => by
  match j, hj with
  | 0, _ => exact r0
  | 1, _ => exact r1)
end Go.Proofs.YtpjacfiddgajfaaGreatDoor

