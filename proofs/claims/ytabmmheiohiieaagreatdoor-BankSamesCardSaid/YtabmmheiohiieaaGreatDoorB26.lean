/- Part 26 of the proof: CbJf51sc. -/
import Derived.Test.YtabmmheiohiieaaGreatDoorRows
import Derived.JoinedOf
import Derived.KernelRfl
open Go
namespace Go.Proofs.YtabmmheiohiieaaGreatDoor
set_option maxRecDepth 100000
theorem jf2 : (mapsRowed Tryz.prog) = true := by kernel_rfl
theorem jf6 : ((Tryz.prog.stops == [])) = true := by kernel_rfl
theorem jf10 : ((Rows.bankSamesRow.unfollowed == Tryz.prog.unfollowed 3)) = true := by kernel_rfl
theorem jf14 : ((Rows.bankSamesRow.ifaces == (Tryz.f3.params.toList ++ Rows.bankSamesSpec.plain.varTypes Tryz.prog).any (Tryz.prog.ifacesRec ·))) = true := by kernel_rfl
theorem jf18 : (Rows.bankSamesSpec.vars.all (Tryz.prog.varReadable ·)) = true := by kernel_rfl
theorem jf22 : ((Rows.bankSamesRow.plainKeys == Tryz.prog.plainKeys)) = true := by kernel_rfl
theorem jf26 : ((Rows.bankSamesRow.lifted == Tryz.prog.liftsFinal)) = true := by kernel_rfl
theorem jf30 : ((Rows.bankSamesRow.veiled == (Tryz.f3.params.toList ++ Rows.bankSamesSpec.plain.varTypes Tryz.prog ++ Tryz.f3.resultTypes.toList).any (Tryz.prog.veiledRec ·))) = true := by kernel_rfl
end Go.Proofs.YtabmmheiohiieaaGreatDoor

