/- Part 35 of the proof: CbJf28Db. -/
import Derived.Test.YtahfohlafjiajaaGreatDoorRows
import Derived.Test.YtahfohlafjiajaaGreatDoorB34
import Derived.JoinedOf
import Derived.KernelRfl
open Go
namespace Go.Proofs.YtahfohlafjiajaaGreatDoor
set_option maxRecDepth 100000
theorem jf5:((Rows.feeDueRow.stops==[]))=true:=by kernel_rfl
theorem jf9:((Rows.feeDueRow.inPlace==Tryz.prog.inPlace 3))=true:=by unfold Program.inPlace;rw[qmH];kernel_rfl
theorem qz3:((Rows.feeDueRow.maps==(Tryz.f3.params.toList++Rows.feeDueSpec.plain.varTypes Tryz.prog).any (Tryz.prog.mapsRec ·)))=true:=by kernel_rfl
theorem qz7:((Rows.feeDueRow.wideKeys==(Tryz.f3.params.toList++Rows.feeDueSpec.plain.varTypes Tryz.prog++Tryz.f3.resultTypes.toList).any (Tryz.prog.wideKeysFrom ·)))=true:=by kernel_rfl
theorem qAb:((Rows.feeDueRow.loopsOut==Tryz.f3.resultTypes.toList.any (Tryz.prog.loopsFrom ·)))=true:=by kernel_rfl
theorem qAf:(Tryz.prog.mayEnter)=true:=by kernel_rfl
theorem qAj:((Rows.feeDueRow.pinned==Rows.feeDueRow.pinnedBy))=true:=by kernel_rfl
end Go.Proofs.YtahfohlafjiajaaGreatDoor

