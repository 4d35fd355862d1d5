/- Part 21 of the proof: CbJf29Ea. -/
import Derived.Test.YtakfofnggifenaaGreatDoorRows
import Derived.JoinedOf
import Derived.KernelRfl
open Go
namespace Go.Proofs.YtakfofnggifenaaGreatDoor
set_option maxRecDepth 100000
theorem jf0 : (Rows.settleEndsRow.wf (OpenSpec.ofChange Rows.settleEndsSpec)) = true := by kernel_rfl
theorem jf4 : (namedTie Tryz.prog Rows.settleEndsRow.named Rows.settleEndsSpec.vars) = true := by kernel_rfl
theorem jf8 : ((Tryz.prog.stopKnobs == [])) = true := by kernel_rfl
theorem jf16 : ((Rows.settleEndsRow.loops == (Tryz.f3.params.toList ++ Rows.settleEndsSpec.plain.varTypes Tryz.prog).any (Tryz.prog.loopsFrom ·))) = true := by kernel_rfl
theorem jf20 : ((Rows.settleEndsRow.ifacesOut == Tryz.f3.resultTypes.toList.any (Tryz.prog.ifacesRec ·))) = true := by kernel_rfl
theorem jf24 : (Tryz.prog.stopsHeard) = true := by kernel_rfl
theorem jf28 : ((Rows.settleEndsRow.kinds == (if Rows.settleEndsRow.domain.isEmpty then [] else Tryz.f3.params.toList.map fun t => match Tryz.prog.underlying t with | some (.int k) => some k | _ => none))) = true := by kernel_rfl
end Go.Proofs.YtakfofnggifenaaGreatDoor

