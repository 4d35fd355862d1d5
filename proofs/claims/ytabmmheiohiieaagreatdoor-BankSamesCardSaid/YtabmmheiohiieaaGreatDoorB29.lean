/- Part 29 of the proof: CbJf51se. -/
import Derived.Test.YtabmmheiohiieaaGreatDoorB28
import Derived.Test.YtabmmheiohiieaaGreatDoorRows
import Derived.JoinedOf
import Derived.KernelRfl
open Go
namespace Go.Proofs.YtabmmheiohiieaaGreatDoor
set_option maxRecDepth 100000
theorem cloG_eq : (clo.flatMap fun g => ((Tryz.prog.funcs[g]?).bind (·.body)).elim [] Code.globalsNamed) = cloG := by kernel_rfl
theorem cloR_eq : (clo.filterMap fun g => (Tryz.prog.funcs[g]?).bind fun fn => if fn.body.isNone then entryReads.lookup fn.name else none) = ["internal/bytealg.MaxLen"] := by kernel_rfl
theorem jf12 : ((Rows.bankSamesRow.named == Tryz.prog.varsNamed 3)) = true := by
 unfold Program.varsNamed
 rw [clo_eq, cloG_eq, cloR_eq]
 kernel_rfl
end Go.Proofs.YtabmmheiohiieaaGreatDoor

