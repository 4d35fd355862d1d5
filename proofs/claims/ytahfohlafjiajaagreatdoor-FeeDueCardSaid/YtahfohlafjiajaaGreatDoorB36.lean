/- Part 36 of the proof: CbJf28Dc. -/
import Derived.Test.YtahfohlafjiajaaGreatDoorRows
import Derived.Test.YtahfohlafjiajaaGreatDoorB34
import Derived.JoinedOf
import Derived.KernelRfl
open Go
namespace Go.Proofs.YtahfohlafjiajaaGreatDoor
set_option maxRecDepth 100000
theorem jf2:(mapsRowed Tryz.prog)=true:=by kernel_rfl
theorem jf6:((Tryz.prog.stops==[]))=true:=by kernel_rfl
theorem qz0:((Rows.feeDueRow.unfollowed==Tryz.prog.unfollowed 3))=true:=by unfold Program.unfollowed;rw[qmH];kernel_rfl
theorem qz4:((Rows.feeDueRow.ifaces==(Tryz.f3.params.toList++Rows.feeDueSpec.plain.varTypes Tryz.prog).any (Tryz.prog.ifacesRec ·)))=true:=by kernel_rfl
theorem qz8:(Rows.feeDueSpec.vars.all (Tryz.prog.varReadable ·))=true:=by kernel_rfl
theorem qAc:((Rows.feeDueRow.plainKeys==Tryz.prog.plainKeys))=true:=by kernel_rfl
theorem qAg:((Rows.feeDueRow.lifted==Tryz.prog.liftsFinal))=true:=by kernel_rfl
theorem qAk:((Rows.feeDueRow.veiled==(Tryz.f3.params.toList++Rows.feeDueSpec.plain.varTypes Tryz.prog++Tryz.f3.resultTypes.toList).any (Tryz.prog.veiledRec ·)))=true:=by kernel_rfl
end Go.Proofs.YtahfohlafjiajaaGreatDoor

