/- Part 36 of the proof: CbJf52Yc. -/
import Derived.Test.YtpjacfiddgajfaaGreatDoorRows
import Derived.Test.YtpjacfiddgajfaaGreatDoorYB34
import Derived.JoinedOf
import Derived.KernelRfl
open Go
namespace Go.Proofs.YtpjacfiddgajfaaGreatDoor
set_option maxRecDepth 100000
theorem jf2 : (mapsRowed Tryz.prog) = true := by kernel_rfl
theorem jf6 : ((Tryz.prog.stops == [])) = true := by kernel_rfl
theorem jf10 : ((Rows.eodBeforeRow.unfollowed == Tryz.prog.unfollowed 4)) = true := by unfold Program.unfollowed; rw [clo_eq]; kernel_rfl
theorem jf14 : ((Rows.eodBeforeRow.ifaces == (Tryz.f4.params.toList ++ Rows.eodBeforeSpec.plain.varTypes Tryz.prog).any (Tryz.prog.ifacesRec ·))) = true := by kernel_rfl
theorem jf18 : (Rows.eodBeforeSpec.vars.all (Tryz.prog.varReadable ·)) = true := by kernel_rfl
theorem jf22 : ((Rows.eodBeforeRow.plainKeys == Tryz.prog.plainKeys)) = true := by kernel_rfl
theorem jf26 : ((Rows.eodBeforeRow.lifted == Tryz.prog.liftsFinal)) = true := by kernel_rfl
theorem jf30 : ((Rows.eodBeforeRow.veiled == (Tryz.f4.params.toList ++ Rows.eodBeforeSpec.plain.varTypes Tryz.prog ++ Tryz.f4.resultTypes.toList).any (Tryz.prog.veiledRec ·))) = true := by kernel_rfl
end Go.Proofs.YtpjacfiddgajfaaGreatDoor

