/- Part 36 of the proof: CbJf28Ec. -/
import Derived.Test.YtahfohlafjiajaaGreatDoorRows
import Derived.Test.YtahfohlafjiajaaGreatDoorEB34
import Derived.JoinedOf
import Derived.KernelRfl
open Go
namespace Go.Proofs.YtahfohlafjiajaaGreatDoor
set_option maxRecDepth 100000
theorem jf2:(mapsRowed Tryz.prog)=true:=by kernel_rfl
theorem jf6:((Tryz.prog.stops==[]))=true:=by kernel_rfl
theorem qAq:((Rows.feeEntriesRow.unfollowed==Tryz.prog.unfollowed 4))=true:=by unfold Program.unfollowed;rw[qmU];kernel_rfl
theorem qAu:((Rows.feeEntriesRow.ifaces==(Tryz.f4.params.toList++Rows.feeEntriesSpec.plain.varTypes Tryz.prog).any (Tryz.prog.ifacesRec ·)))=true:=by kernel_rfl
theorem qAy:(Rows.feeEntriesSpec.vars.all (Tryz.prog.varReadable ·))=true:=by kernel_rfl
theorem qAC:((Rows.feeEntriesRow.plainKeys==Tryz.prog.plainKeys))=true:=by kernel_rfl
theorem qAG:((Rows.feeEntriesRow.lifted==Tryz.prog.liftsFinal))=true:=by kernel_rfl
theorem qAK:((Rows.feeEntriesRow.veiled==(Tryz.f4.params.toList++Rows.feeEntriesSpec.plain.varTypes Tryz.prog++Tryz.f4.resultTypes.toList).any (Tryz.prog.veiledRec ·)))=true:=by kernel_rfl
end Go.Proofs.YtahfohlafjiajaaGreatDoor

