/- Part 23 of the proof: CbJf51Pa. -/
import Derived.Test.YtehcjdaedhmkdaaGreatDoorRows
import Derived.JoinedOf
import Derived.KernelRfl
open Go
namespace Go.Proofs.YtehcjdaedhmkdaaGreatDoor
set_option maxRecDepth 100000
theorem jf0 : (Rows.bankPaidRow.wf (OpenSpec.ofChange Rows.bankPaidSpec)) = true := by kernel_rfl
theorem jf4 : (namedTie Tryz.prog Rows.bankPaidRow.named Rows.bankPaidSpec.vars) = true := by kernel_rfl
theorem jf8 : ((Tryz.prog.stopKnobs == [])) = true := by kernel_rfl
theorem jf16 : ((Rows.bankPaidRow.loops == (Tryz.f3.params.toList ++ Rows.bankPaidSpec.plain.varTypes Tryz.prog).any (Tryz.prog.loopsFrom ·))) = true := by kernel_rfl
theorem jf20 : ((Rows.bankPaidRow.ifacesOut == Tryz.f3.resultTypes.toList.any (Tryz.prog.ifacesRec ·))) = true := by kernel_rfl
theorem jf24 : (Tryz.prog.stopsHeard) = true := by kernel_rfl
theorem jf28 : ((Rows.bankPaidRow.kinds == (if Rows.bankPaidRow.domain.isEmpty then [] else Tryz.f3.params.toList.map fun t => match Tryz.prog.underlying t with | some (.int k) => some k | _ => none))) = true := by kernel_rfl
end Go.Proofs.YtehcjdaedhmkdaaGreatDoor

