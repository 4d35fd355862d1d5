/- Part 23 of the proof: CbJf29Ec. -/
import Derived.Test.YtakfofnggifenaaGreatDoorRows
import Derived.JoinedOf
import Derived.KernelRfl
open Go
namespace Go.Proofs.YtakfofnggifenaaGreatDoor
set_option maxRecDepth 100000
theorem jf2 : (mapsRowed Tryz.prog) = true := by kernel_rfl
theorem jf6 : ((Tryz.prog.stops == [])) = true := by kernel_rfl
theorem jf10 : ((Rows.settleEndsRow.unfollowed == Tryz.prog.unfollowed 3)) = true := by kernel_rfl
theorem jf14 : ((Rows.settleEndsRow.ifaces == (Tryz.f3.params.toList ++ Rows.settleEndsSpec.plain.varTypes Tryz.prog).any (Tryz.prog.ifacesRec ·))) = true := by kernel_rfl
theorem jf18 : (Rows.settleEndsSpec.vars.all (Tryz.prog.varReadable ·)) = true := by kernel_rfl
theorem jf22 : ((Rows.settleEndsRow.plainKeys == Tryz.prog.plainKeys)) = true := by kernel_rfl
theorem jf26 : ((Rows.settleEndsRow.lifted == Tryz.prog.liftsFinal)) = true := by kernel_rfl
theorem jf30 : ((Rows.settleEndsRow.veiled == (Tryz.f3.params.toList ++ Rows.settleEndsSpec.plain.varTypes Tryz.prog ++ Tryz.f3.resultTypes.toList).any (Tryz.prog.veiledRec ·))) = true := by kernel_rfl
end Go.Proofs.YtakfofnggifenaaGreatDoor

