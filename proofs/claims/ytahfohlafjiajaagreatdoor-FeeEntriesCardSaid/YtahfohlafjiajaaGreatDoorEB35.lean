/- Part 35 of the proof: CbJf28Eb. -/
import Derived.Test.YtahfohlafjiajaaGreatDoorRows
import Derived.Test.YtahfohlafjiajaaGreatDoorEB34
import Derived.JoinedOf
import Derived.KernelRfl
open Go
namespace Go.Proofs.YtahfohlafjiajaaGreatDoor
set_option maxRecDepth 100000
theorem jf5:((Rows.feeEntriesRow.stops==[]))=true:=by kernel_rfl
theorem jf9:((Rows.feeEntriesRow.inPlace==Tryz.prog.inPlace 4))=true:=by unfold Program.inPlace;rw[qmU];kernel_rfl
theorem qAt:((Rows.feeEntriesRow.maps==(Tryz.f4.params.toList++Rows.feeEntriesSpec.plain.varTypes Tryz.prog).any (Tryz.prog.mapsRec ·)))=true:=by kernel_rfl
theorem qAx:((Rows.feeEntriesRow.wideKeys==(Tryz.f4.params.toList++Rows.feeEntriesSpec.plain.varTypes Tryz.prog++Tryz.f4.resultTypes.toList).any (Tryz.prog.wideKeysFrom ·)))=true:=by kernel_rfl
theorem qAB:((Rows.feeEntriesRow.loopsOut==Tryz.f4.resultTypes.toList.any (Tryz.prog.loopsFrom ·)))=true:=by kernel_rfl
theorem qAF:(Tryz.prog.mayEnter)=true:=by kernel_rfl
theorem qAJ:((Rows.feeEntriesRow.pinned==Rows.feeEntriesRow.pinnedBy))=true:=by kernel_rfl
end Go.Proofs.YtahfohlafjiajaaGreatDoor

