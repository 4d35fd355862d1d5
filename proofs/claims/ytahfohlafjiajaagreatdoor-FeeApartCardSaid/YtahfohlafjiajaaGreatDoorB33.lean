/- Part 33 of the proof: CbJf28Ab. -/
import Derived.Test.YtahfohlafjiajaaGreatDoorRows
import Derived.Test.YtahfohlafjiajaaGreatDoorB32
import Derived.JoinedOf
import Derived.KernelRfl
open Go
namespace Go.Proofs.YtahfohlafjiajaaGreatDoor
set_option maxRecDepth 100000
theorem jf5:((Rows.feeApartRow.stops==[]))=true:=by kernel_rfl
theorem jf9:((Rows.feeApartRow.inPlace==Tryz.prog.inPlace 5))=true:=by unfold Program.inPlace;rw[qmK];kernel_rfl
theorem qDQ:((Rows.feeApartRow.maps==(Tryz.f5.params.toList++Rows.feeApartSpec.plain.varTypes Tryz.prog).any (Tryz.prog.mapsRec ·)))=true:=by kernel_rfl
theorem qAV:((Rows.feeApartRow.wideKeys==(Tryz.f5.params.toList++Rows.feeApartSpec.plain.varTypes Tryz.prog++Tryz.f5.resultTypes.toList).any (Tryz.prog.wideKeysFrom ·)))=true:=by kernel_rfl
theorem qx2:((Rows.feeApartRow.loopsOut==Tryz.f5.resultTypes.toList.any (Tryz.prog.loopsFrom ·)))=true:=by kernel_rfl
theorem qyx:(Tryz.prog.mayEnter)=true:=by kernel_rfl
theorem qDh:((Rows.feeApartRow.pinned==Rows.feeApartRow.pinnedBy))=true:=by kernel_rfl
end Go.Proofs.YtahfohlafjiajaaGreatDoor

