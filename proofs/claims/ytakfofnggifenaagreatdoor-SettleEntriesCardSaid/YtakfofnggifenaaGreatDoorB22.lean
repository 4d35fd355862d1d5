/- Part 22 of the proof: CbJf29Sa. -/
import Derived.Test.YtakfofnggifenaaGreatDoorRows
import Derived.JoinedOf
import Derived.KernelRfl
open Go
namespace Go.Proofs.YtakfofnggifenaaGreatDoor
set_option maxRecDepth 100000
theorem jf0 : (Rows.settleEntriesRow.wf (OpenSpec.ofChange Rows.settleEntriesSpec)) = true := by kernel_rfl
theorem jf4 : (namedTie Tryz.prog Rows.settleEntriesRow.named Rows.settleEntriesSpec.vars) = true := by kernel_rfl
theorem jf8 : ((Tryz.prog.stopKnobs == [])) = true := by kernel_rfl
theorem jf16 : ((Rows.settleEntriesRow.loops == (Tryz.f4.params.toList ++ Rows.settleEntriesSpec.plain.varTypes Tryz.prog).any (Tryz.prog.loopsFrom ·))) = true := by kernel_rfl
theorem jf20 : ((Rows.settleEntriesRow.ifacesOut == Tryz.f4.resultTypes.toList.any (Tryz.prog.ifacesRec ·))) = true := by kernel_rfl
theorem jf24 : (Tryz.prog.stopsHeard) = true := by kernel_rfl
theorem jf28 : ((Rows.settleEntriesRow.kinds == (if Rows.settleEntriesRow.domain.isEmpty then [] else Tryz.f4.params.toList.map fun t => match Tryz.prog.underlying t with | some (.int k) => some k | _ => none))) = true := by kernel_rfl
end Go.Proofs.YtakfofnggifenaaGreatDoor

