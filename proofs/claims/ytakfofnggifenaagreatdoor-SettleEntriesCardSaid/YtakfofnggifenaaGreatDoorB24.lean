/- Part 24 of the proof: CbJf29Sc. -/
import Derived.Test.YtakfofnggifenaaGreatDoorRows
import Derived.JoinedOf
import Derived.KernelRfl
open Go
namespace Go.Proofs.YtakfofnggifenaaGreatDoor
set_option maxRecDepth 100000
theorem jf2 : (mapsRowed Tryz.prog) = true := by kernel_rfl
theorem jf6 : ((Tryz.prog.stops == [])) = true := by kernel_rfl
theorem jf10 : ((Rows.settleEntriesRow.unfollowed == Tryz.prog.unfollowed 4)) = true := by kernel_rfl
theorem jf14 : ((Rows.settleEntriesRow.ifaces == (Tryz.f4.params.toList ++ Rows.settleEntriesSpec.plain.varTypes Tryz.prog).any (Tryz.prog.ifacesRec ·))) = true := by kernel_rfl
theorem jf18 : (Rows.settleEntriesSpec.vars.all (Tryz.prog.varReadable ·)) = true := by kernel_rfl
theorem jf22 : ((Rows.settleEntriesRow.plainKeys == Tryz.prog.plainKeys)) = true := by kernel_rfl
theorem jf26 : ((Rows.settleEntriesRow.lifted == Tryz.prog.liftsFinal)) = true := by kernel_rfl
theorem jf30 : ((Rows.settleEntriesRow.veiled == (Tryz.f4.params.toList ++ Rows.settleEntriesSpec.plain.varTypes Tryz.prog ++ Tryz.f4.resultTypes.toList).any (Tryz.prog.veiledRec ·))) = true := by kernel_rfl
end Go.Proofs.YtakfofnggifenaaGreatDoor

