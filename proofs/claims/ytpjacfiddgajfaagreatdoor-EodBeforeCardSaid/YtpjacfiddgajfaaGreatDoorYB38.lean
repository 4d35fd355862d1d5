/- Part 38 of the proof: CbJf52Ye. -/
import Derived.Test.YtpjacfiddgajfaaGreatDoorYB34
import Derived.Test.YtpjacfiddgajfaaGreatDoorRows
import Derived.JoinedOf
import Derived.KernelRfl
open Go
namespace Go.Proofs.YtpjacfiddgajfaaGreatDoor
set_option maxRecDepth 100000
theorem cloG_eq : (clo.flatMap fun g => ((Tryz.prog.funcs[g]?).bind (·.body)).elim [] Code.globalsNamed) = cloG := by kernel_rfl
theorem cloR_eq : (clo.filterMap fun g => (Tryz.prog.funcs[g]?).bind fun fn => if fn.body.isNone then entryReads.lookup fn.name else none) = ["internal/bytealg.MaxLen"] := by kernel_rfl
theorem jf12 : ((Rows.eodBeforeRow.named == Tryz.prog.varsNamed 4)) = true := by
 unfold Program.varsNamed
 rw [clo_eq, cloG_eq, cloR_eq]
 kernel_rfl
end Go.Proofs.YtpjacfiddgajfaaGreatDoor

