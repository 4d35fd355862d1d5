/- Part 33 of the proof: CbJf25Fb. -/
import Derived.Test.YtkijgkjjbanipaaGreatDoorRows
import Derived.Test.YtkijgkjjbanipaaGreatDoorB32
import Derived.JoinedOf
import Derived.KernelRfl
open Go
namespace Go.Proofs.YtkijgkjjbanipaaGreatDoor
set_option maxRecDepth 100000
theorem jf5:((Rows.limitFreesRow.stops==[]))=true:=by kernel_rfl
theorem jf9:((Rows.limitFreesRow.inPlace==Tryz.prog.inPlace 6))=true:=by unfold Program.inPlace;rw[qmv];kernel_rfl
theorem qEz:((Rows.limitFreesRow.maps==(Tryz.f6.params.toList++Rows.limitFreesSpec.plain.varTypes Tryz.prog).any (Tryz.prog.mapsRec ·)))=true:=by kernel_rfl
theorem qxp:((Rows.limitFreesRow.wideKeys==(Tryz.f6.params.toList++Rows.limitFreesSpec.plain.varTypes Tryz.prog++Tryz.f6.resultTypes.toList).any (Tryz.prog.wideKeysFrom ·)))=true:=by kernel_rfl
theorem qFN:((Rows.limitFreesRow.loopsOut==Tryz.f6.resultTypes.toList.any (Tryz.prog.loopsFrom ·)))=true:=by kernel_rfl
theorem qw2:(Tryz.prog.mayEnter)=true:=by kernel_rfl
theorem qz6:((Rows.limitFreesRow.pinned==Rows.limitFreesRow.pinnedBy))=true:=by kernel_rfl
end Go.Proofs.YtkijgkjjbanipaaGreatDoor

