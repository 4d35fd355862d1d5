/- Part 37 of the proof. -/
import Derived.Test.YtmaaepdecdhmnaaGreatDoorRows
import Derived.Test.YtmaaepdecdhmnaaGreatDoorB35
import Derived.JoinedOf
import Derived.KernelRfl
section
open Go
namespace Go.Proofs.YtmaaepdecdhmnaaGreatDoor
set_option maxRecDepth 100000
theorem jf2:(mapsRowed Tryz.prog)=true:=by kernel_rfl
theorem jf6:((Tryz.prog.stops==[]))=true:=by kernel_rfl
theorem qBc:((Rows.limitAllowsRow.unfollowed==Tryz.prog.unfollowed 3))=true:=by unfold Program.unfollowed;rw[qnJ];kernel_rfl
theorem qBg:((Rows.limitAllowsRow.ifaces==(Tryz.f3.params.toList++Rows.limitAllowsSpec.plain.varTypes Tryz.prog).any (Tryz.prog.ifacesRec ·)))=true:=by kernel_rfl
theorem qBk:(Rows.limitAllowsSpec.vars.all (Tryz.prog.varReadable ·))=true:=by kernel_rfl
theorem qBo:((Rows.limitAllowsRow.plainKeys==Tryz.prog.plainKeys))=true:=by kernel_rfl
theorem qBs:((Rows.limitAllowsRow.lifted==Tryz.prog.liftsFinal))=true:=by kernel_rfl
theorem qBw:((Rows.limitAllowsRow.veiled==(Tryz.f3.params.toList++Rows.limitAllowsSpec.plain.varTypes Tryz.prog++Tryz.f3.resultTypes.toList).any (Tryz.prog.veiledRec ·)))=true:=by kernel_rfl
end Go.Proofs.YtmaaepdecdhmnaaGreatDoor
end
