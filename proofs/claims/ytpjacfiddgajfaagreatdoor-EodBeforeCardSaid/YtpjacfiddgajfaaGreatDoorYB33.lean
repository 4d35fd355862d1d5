/- Part 33 of the proof: CbJf52Ya. -/
import Derived.Test.YtpjacfiddgajfaaGreatDoorRows
import Derived.JoinedOf
import Derived.KernelRfl
open Go
namespace Go.Proofs.YtpjacfiddgajfaaGreatDoor
set_option maxRecDepth 100000
theorem jf0 : (Rows.eodBeforeRow.wf (OpenSpec.ofChange Rows.eodBeforeSpec)) = true := by kernel_rfl
theorem jf4 : (namedTie Tryz.prog Rows.eodBeforeRow.named Rows.eodBeforeSpec.vars) = true := by kernel_rfl
theorem jf8 : ((Tryz.prog.stopKnobs == [])) = true := by kernel_rfl
theorem loops_of {P : Program} {t u v : TypeId} (h1 : u ∈ P.book t) (h2 : v ∈ P.partsOf u) (h3 : (P.book v).contains u = true) : P.loopsFrom t = true := by
 unfold Program.loopsFrom
 exact List.any_eq_true.2 ⟨u, h1, List.any_eq_true.2 ⟨v, h2, h3⟩⟩
theorem loops_in : (Tryz.f4.params.toList ++ Rows.eodBeforeSpec.plain.varTypes Tryz.prog).any (Tryz.prog.loopsFrom ·) = true :=
 List.any_eq_true.2 ⟨56, of_decide_eq_true (by kernel_rfl), loops_of (u := 200) (v := 202) (of_decide_eq_true (by kernel_rfl)) (of_decide_eq_true (by kernel_rfl)) (by kernel_rfl)⟩
theorem jf16 : ((Rows.eodBeforeRow.loops == (Tryz.f4.params.toList ++ Rows.eodBeforeSpec.plain.varTypes Tryz.prog).any (Tryz.prog.loopsFrom ·))) = true := by rw [loops_in]; kernel_rfl
theorem jf20 : ((Rows.eodBeforeRow.ifacesOut == Tryz.f4.resultTypes.toList.any (Tryz.prog.ifacesRec ·))) = true := by kernel_rfl
theorem jf24 : (Tryz.prog.stopsHeard) = true := by kernel_rfl
theorem jf28 : ((Rows.eodBeforeRow.kinds == (if Rows.eodBeforeRow.domain.isEmpty then [] else Tryz.f4.params.toList.map fun t => match Tryz.prog.underlying t with | some (.int k) => some k | _ => none))) = true := by kernel_rfl
end Go.Proofs.YtpjacfiddgajfaaGreatDoor

