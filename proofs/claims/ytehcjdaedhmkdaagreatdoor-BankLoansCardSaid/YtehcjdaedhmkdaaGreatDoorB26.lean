/- Part 26 of the proof: CbJf51Lc. -/
import Derived.Test.YtehcjdaedhmkdaaGreatDoorRows
import Derived.JoinedOf
import Derived.KernelRfl
open Go
namespace Go.Proofs.YtehcjdaedhmkdaaGreatDoor
set_option maxRecDepth 100000
theorem jf2 : (mapsRowed Tryz.prog) = true := by kernel_rfl
theorem jf6 : ((Tryz.prog.stops == [])) = true := by kernel_rfl
theorem jf10 : ((Rows.bankLoansRow.unfollowed == Tryz.prog.unfollowed 4)) = true := by kernel_rfl
theorem jf14 : ((Rows.bankLoansRow.ifaces == (Tryz.f4.params.toList ++ Rows.bankLoansSpec.plain.varTypes Tryz.prog).any (Tryz.prog.ifacesRec ·))) = true := by kernel_rfl
theorem jf18 : (Rows.bankLoansSpec.vars.all (Tryz.prog.varReadable ·)) = true := by kernel_rfl
theorem jf22 : ((Rows.bankLoansRow.plainKeys == Tryz.prog.plainKeys)) = true := by kernel_rfl
theorem jf26 : ((Rows.bankLoansRow.lifted == Tryz.prog.liftsFinal)) = true := by kernel_rfl
theorem jf30 : ((Rows.bankLoansRow.veiled == (Tryz.f4.params.toList ++ Rows.bankLoansSpec.plain.varTypes Tryz.prog ++ Tryz.f4.resultTypes.toList).any (Tryz.prog.veiledRec ·))) = true := by kernel_rfl
end Go.Proofs.YtehcjdaedhmkdaaGreatDoor

