/- Part 19 of the proof: CbFin52Y. -/
import Derived.Test.YtpjacfiddgajfaaGreatDoorYB13
import Derived.Test.YtpjacfiddgajfaaGreatDoorYB14
import Derived.Test.YtpjacfiddgajfaaGreatDoorYB18
import Derived.KernelRfl
open Go Go.Sim Go.RowKit
namespace Go.Proofs.YtpjacfiddgajfaaGreatDoor
set_option maxRecDepth 100000
theorem x109 : XOK Tryz.prog nm cx TA52Y.G 109 .itoa := ⟨Tryz.laysM171_ren, Tryz.laysM171, by kernel_rfl, by kernel_rfl⟩
def insR264 : Go.Shelf.Ren := ⟨fun | 22 => 408 | 29 => 457 | 30 => 458 | n => n, fun | 0 => 0 | 3 => 3 | 4 => 4 | 9 => 75 | 24 => 67 | n => n, fun n => n⟩
theorem insL264 : InsL Tryz.prog (cx.μ 264) insR264 (K1 3).size := {
 mixed := by kernel_rfl
 bears := ⟨_, by decide, Tryz.func408⟩
 ov := ⟨_, Tryz.func457, by kernel_rfl, by kernel_rfl, by kernel_rfl, by kernel_rfl⟩
 t3 := Tryz.underlying3
 a3 := Tryz.isAgg3
 z3 := Tryz.sizeOf3
 v3 := Tryz.zeroValue3
 t4 := Tryz.underlying4
 a4 := Tryz.isAgg4
 z4 := Tryz.sizeOf4
 v4 := Tryz.zeroValue4
 t24 := Tryz.underlying67
 a24 := Tryz.isAgg67
 z24 := Tryz.sizeOf67
 v24 := Tryz.zeroValue67
 z9 := Tryz.sizeOf75 }
theorem r264 : ROK Tryz.prog nm cx TA52Y.G 264 (.ins (K1 3) 32) := ⟨insR264, .a [I 0, I 0, .s []], insL264, by kernel_rfl, by kernel_rfl, by kernel_rfl, by decide, by decide⟩
def insR269 : Go.Shelf.Ren := ⟨fun | 22 => 413 | 29 => 460 | 30 => 461 | n => n, fun | 0 => 0 | 3 => 3 | 4 => 4 | 9 => 304 | 24 => 301 | n => n, fun n => n⟩
theorem insL269 : InsL Tryz.prog (cx.μ 269) insR269 (K1 2).size := {
 mixed := by kernel_rfl
 bears := ⟨_, by decide, Tryz.func413⟩
 ov := ⟨_, Tryz.func460, by kernel_rfl, by kernel_rfl, by kernel_rfl, by kernel_rfl⟩
 t3 := Tryz.underlying3
 a3 := Tryz.isAgg3
 z3 := Tryz.sizeOf3
 v3 := Tryz.zeroValue3
 t4 := Tryz.underlying4
 a4 := Tryz.isAgg4
 z4 := Tryz.sizeOf4
 v4 := Tryz.zeroValue4
 t24 := Tryz.underlying301
 a24 := Tryz.isAgg301
 z24 := Tryz.sizeOf301
 v24 := Tryz.zeroValue301
 z9 := Tryz.sizeOf304 }
theorem r269 : ROK Tryz.prog nm cx TA52Y.G 269 (.ins (K1 2) 24) := ⟨insR269, .a [.s [], I 0], insL269, by kernel_rfl, by kernel_rfl, by kernel_rfl, by decide, by decide⟩
theorem r386 : ROK Tryz.prog nm cx TA52Y.G 386 .ai := ⟨Tryz.laysM176_ren, Tryz.laysM176, by kernel_rfl, by kernel_rfl, by kernel_rfl, by kernel_rfl, by kernel_rfl⟩
theorem xok : ∀ x ∈ xsL, XOK Tryz.prog nm cx TA52Y.G x.1 x.2 := by
 simp only [xsL, List.forall_mem_cons, List.not_mem_nil, false_imp_iff, implies_true, and_true]
 exact ⟨x109, clone147, clone148, clone149, clone150, clone151, clone152, clone153, clone160, clone161, clone162, clone225, clone226, clone227, clone228, clone229, clone15, clone60⟩
theorem rok : ∀ x ∈ rsL, ROK Tryz.prog nm cx TA52Y.G x.1 x.2 := by
 simp only [rsL, List.forall_mem_cons, List.not_mem_nil, false_imp_iff, implies_true, and_true]
 exact ⟨r264, r269, r386⟩
theorem tok0 : TabOK Tryz.prog nm cx TA52Y := tab_ok nok fok xok rok
theorem tok : TabOK Tryz.prog nm cx TA52Ym2 := memo_ok (memo_ok tok0 ms1_ok ms1_some) ms2_ok ms2_some
end Go.Proofs.YtpjacfiddgajfaaGreatDoor

