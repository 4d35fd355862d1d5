/- Part 36 of the proof: CbJf25Hb. -/
import Derived.Test.YtcihddahcplehaaGreatDoorRows
import Derived.Test.YtcihddahcplehaaGreatDoorB35
import Derived.JoinedOf
import Derived.KernelRfl
open Go
namespace Go.Proofs.YtcihddahcplehaaGreatDoor
set_option maxRecDepth 100000
theorem jf5:((Rows.limitHoldsRow.stops==[]))=true:=by kernel_rfl
theorem jf9:((Rows.limitHoldsRow.inPlace==Tryz.prog.inPlace 3))=true:=by unfold Program.inPlace;rw[qmF];kernel_rfl
theorem qFt:((Rows.limitHoldsRow.maps==(Tryz.f3.params.toList++Rows.limitHoldsSpec.plain.varTypes Tryz.prog).any (Tryz.prog.mapsRec ·)))=true:=by kernel_rfl
theorem qCf:((Rows.limitHoldsRow.wideKeys==(Tryz.f3.params.toList++Rows.limitHoldsSpec.plain.varTypes Tryz.prog++Tryz.f3.resultTypes.toList).any (Tryz.prog.wideKeysFrom ·)))=true:=by kernel_rfl
theorem qLh:((Rows.limitHoldsRow.loopsOut==Tryz.f3.resultTypes.toList.any (Tryz.prog.loopsFrom ·)))=true:=by kernel_rfl
theorem qDb:(Tryz.prog.mayEnter)=true:=by kernel_rfl
theorem qDM:((Rows.limitHoldsRow.pinned==Rows.limitHoldsRow.pinnedBy))=true:=by kernel_rfl
end Go.Proofs.YtcihddahcplehaaGreatDoor

