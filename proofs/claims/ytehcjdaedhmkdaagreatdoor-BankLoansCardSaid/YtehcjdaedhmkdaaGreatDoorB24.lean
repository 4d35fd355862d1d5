/- Part 24 of the proof: CbJf51La. -/
import Derived.Test.YtehcjdaedhmkdaaGreatDoorRows
import Derived.JoinedOf
import Derived.KernelRfl
open Go
namespace Go.Proofs.YtehcjdaedhmkdaaGreatDoor
set_option maxRecDepth 100000
theorem jf0 : (Rows.bankLoansRow.wf (OpenSpec.ofChange Rows.bankLoansSpec)) = true := by kernel_rfl
theorem jf4 : (namedTie Tryz.prog Rows.bankLoansRow.named Rows.bankLoansSpec.vars) = true := by kernel_rfl
theorem jf8 : ((Tryz.prog.stopKnobs == [])) = true := by kernel_rfl
theorem jf16 : ((Rows.bankLoansRow.loops == (Tryz.f4.params.toList ++ Rows.bankLoansSpec.plain.varTypes Tryz.prog).any (Tryz.prog.loopsFrom ·))) = true := by kernel_rfl
theorem jf20 : ((Rows.bankLoansRow.ifacesOut == Tryz.f4.resultTypes.toList.any (Tryz.prog.ifacesRec ·))) = true := by kernel_rfl
theorem jf24 : (Tryz.prog.stopsHeard) = true := by kernel_rfl
theorem jf28 : ((Rows.bankLoansRow.kinds == (if Rows.bankLoansRow.domain.isEmpty then [] else Tryz.f4.params.toList.map fun t => match Tryz.prog.underlying t with | some (.int k) => some k | _ => none))) = true := by kernel_rfl
end Go.Proofs.YtehcjdaedhmkdaaGreatDoor

