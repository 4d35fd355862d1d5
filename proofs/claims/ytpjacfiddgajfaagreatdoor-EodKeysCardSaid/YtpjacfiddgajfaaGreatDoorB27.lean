/- Part 27 of the proof: CbJf52a. -/
import Derived.Test.YtpjacfiddgajfaaGreatDoorRows
import Derived.JoinedOf
import Derived.KernelRfl
open Go
namespace Go.Proofs.YtpjacfiddgajfaaGreatDoor
set_option maxRecDepth 100000
theorem jf0 : (Rows.eodKeysRow.wf (OpenSpec.ofChange Rows.eodKeysSpec)) = true := by kernel_rfl
theorem jf4 : (namedTie Tryz.prog Rows.eodKeysRow.named Rows.eodKeysSpec.vars) = true := by kernel_rfl
theorem jf8 : ((Tryz.prog.stopKnobs == [])) = true := by kernel_rfl
theorem jf16 : ((Rows.eodKeysRow.loops == (Tryz.f3.params.toList ++ Rows.eodKeysSpec.plain.varTypes Tryz.prog).any (Tryz.prog.loopsFrom ·))) = true := by kernel_rfl
theorem jf20 : ((Rows.eodKeysRow.ifacesOut == Tryz.f3.resultTypes.toList.any (Tryz.prog.ifacesRec ·))) = true := by kernel_rfl
theorem jf24 : (Tryz.prog.stopsHeard) = true := by kernel_rfl
theorem jf28 : ((Rows.eodKeysRow.kinds == (if Rows.eodKeysRow.domain.isEmpty then [] else Tryz.f3.params.toList.map fun t => match Tryz.prog.underlying t with | some (.int k) => some k | _ => none))) = true := by kernel_rfl
end Go.Proofs.YtpjacfiddgajfaaGreatDoor

