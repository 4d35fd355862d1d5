/- Part 28 of the proof: CbJf25Ee. -/
import Derived.Test.YtkijgkjjbanipaaGreatDoorB27
import Derived.Test.YtkijgkjjbanipaaGreatDoorRows
import Derived.JoinedOf
import Derived.KernelRfl
set_option linter.all false
open Go
namespace Go.Proofs.YtkijgkjjbanipaaGreatDoor
set_option maxRecDepth 100000
theorem cloG_eq : (clo.flatMap fun g => ((Tryz.prog.funcs[g]?).bind (·.body)).elim [] Code.globalsNamed) = cloG := by kernel_rfl
theorem cloR_eq : (clo.filterMap fun g => (Tryz.prog.funcs[g]?).bind fun fn => if fn.body.isNone then entryReads.lookup fn.name else none) = ["internal/bytealg.MaxLen"] := by kernel_rfl
theorem jf12 : ((Rows.limitEnvRow.named == Tryz.prog.varsNamed 3)) = true := by
 unfold Program.varsNamed
 rw [clo_eq, cloG_eq, cloR_eq]
 kernel_rfl
end Go.Proofs.YtkijgkjjbanipaaGreatDoor

