/- Part 36 of the proof. -/
import Derived.Test.YtmaaepdecdhmnaaGreatDoorRows
import Derived.Test.YtmaaepdecdhmnaaGreatDoorB35
import Derived.JoinedOf
import Derived.KernelRfl
section
open Go
namespace Go.Proofs.YtmaaepdecdhmnaaGreatDoor
set_option maxRecDepth 100000
theorem jf5:((Rows.limitAllowsRow.stops==[]))=true:=by kernel_rfl
theorem jf9:((Rows.limitAllowsRow.inPlace==Tryz.prog.inPlace 3))=true:=by unfold Program.inPlace;rw[qnJ];kernel_rfl
theorem qBf:((Rows.limitAllowsRow.maps==(Tryz.f3.params.toList++Rows.limitAllowsSpec.plain.varTypes Tryz.prog).any (Tryz.prog.mapsRec ·)))=true:=by kernel_rfl
theorem qBj:((Rows.limitAllowsRow.wideKeys==(Tryz.f3.params.toList++Rows.limitAllowsSpec.plain.varTypes Tryz.prog++Tryz.f3.resultTypes.toList).any (Tryz.prog.wideKeysFrom ·)))=true:=by kernel_rfl
theorem qBn:((Rows.limitAllowsRow.loopsOut==Tryz.f3.resultTypes.toList.any (Tryz.prog.loopsFrom ·)))=true:=by kernel_rfl
theorem qBr:(Tryz.prog.mayEnter)=true:=by kernel_rfl
theorem qBv:((Rows.limitAllowsRow.pinned==Rows.limitAllowsRow.pinnedBy))=true:=by kernel_rfl
end Go.Proofs.YtmaaepdecdhmnaaGreatDoor
end
