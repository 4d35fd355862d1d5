/- Part 25 of the proof: CbJf25Ec. -/
import Derived.Test.YtkijgkjjbanipaaGreatDoorRows
import Derived.JoinedOf
import Derived.KernelRfl
set_option linter.all false
open Go
namespace Go.Proofs.YtkijgkjjbanipaaGreatDoor
set_option maxRecDepth 100000
theorem jf2 : (mapsRowed Tryz.prog) = true := by kernel_rfl
theorem jf6 : ((Tryz.prog.stops == [])) = true := by kernel_rfl
theorem jf10 : ((Rows.limitEnvRow.unfollowed == Tryz.prog.unfollowed 3)) = true := by kernel_rfl
theorem jf14 : ((Rows.limitEnvRow.ifaces == (Tryz.f3.params.toList ++ Rows.limitEnvSpec.plain.varTypes Tryz.prog).any (Tryz.prog.ifacesRec ·))) = true := by kernel_rfl
theorem jf18 : (Rows.limitEnvSpec.vars.all (Tryz.prog.varReadable ·)) = true := by kernel_rfl
theorem jf22 : ((Rows.limitEnvRow.plainKeys == Tryz.prog.plainKeys)) = true := by kernel_rfl
theorem jf26 : ((Rows.limitEnvRow.lifted == Tryz.prog.liftsFinal)) = true := by kernel_rfl
theorem jf30 : ((Rows.limitEnvRow.veiled == (Tryz.f3.params.toList ++ Rows.limitEnvSpec.plain.varTypes Tryz.prog ++ Tryz.f3.resultTypes.toList).any (Tryz.prog.veiledRec ·))) = true := by kernel_rfl
end Go.Proofs.YtkijgkjjbanipaaGreatDoor

