/- Part 34 of the proof: CbJf28Ac. -/
import Derived.Test.YtahfohlafjiajaaGreatDoorRows
import Derived.Test.YtahfohlafjiajaaGreatDoorB32
import Derived.JoinedOf
import Derived.KernelRfl
open Go
namespace Go.Proofs.YtahfohlafjiajaaGreatDoor
set_option maxRecDepth 100000
theorem jf2:(mapsRowed Tryz.prog)=true:=by kernel_rfl
theorem jf6:((Tryz.prog.stops==[]))=true:=by kernel_rfl
theorem qD0:((Rows.feeApartRow.unfollowed==Tryz.prog.unfollowed 5))=true:=by unfold Program.unfollowed;rw[qmK];kernel_rfl
theorem qAv:((Rows.feeApartRow.ifaces==(Tryz.f5.params.toList++Rows.feeApartSpec.plain.varTypes Tryz.prog).any (Tryz.prog.ifacesRec ·)))=true:=by kernel_rfl
theorem qvC:(Rows.feeApartSpec.vars.all (Tryz.prog.varReadable ·))=true:=by kernel_rfl
theorem qDN:((Rows.feeApartRow.plainKeys==Tryz.prog.plainKeys))=true:=by kernel_rfl
theorem qC9:((Rows.feeApartRow.lifted==Tryz.prog.liftsFinal))=true:=by kernel_rfl
theorem qAm:((Rows.feeApartRow.veiled==(Tryz.f5.params.toList++Rows.feeApartSpec.plain.varTypes Tryz.prog++Tryz.f5.resultTypes.toList).any (Tryz.prog.veiledRec ·)))=true:=by kernel_rfl
end Go.Proofs.YtahfohlafjiajaaGreatDoor

