/- Part 38 of the proof. -/
import Derived.Test.YtmaaepdecdhmnaaGreatDoorRows
import Derived.JoinedOf
import Derived.KernelRfl
section
open Go
namespace Go.Proofs.YtmaaepdecdhmnaaGreatDoor
set_option maxRecDepth 100000
theorem jf3:(Tryz.f3.params.all (Tryz.prog.readableRec ·))=true:=by kernel_rfl
theorem jf7:((Rows.limitAllowsRow.knobs==[]))=true:=by kernel_rfl
theorem qBd:((Rows.limitAllowsRow.recurses==Tryz.prog.recurses 3))=true:=by kernel_rfl
theorem qBh:((Rows.limitAllowsRow.mapsOut==Tryz.prog.mapsAmong Tryz.f3.resultTypes.toList))=true:=by kernel_rfl
theorem qBl:(Tryz.f3.resultTypes.all (fun t=>Tryz.prog.readableRec t&&decide (t<Tryz.prog.types.size)))=true:=by kernel_rfl
theorem qBp:(Rows.limitAllowsRow.shortTexts.isNone)=true:=by kernel_rfl
theorem qBt:((Tryz.prog.make==some Rows.limitAllowsRow.make))=true:=by kernel_rfl
theorem qBx:(Rows.limitAllowsRow.veiledFits Tryz.prog Tryz.f3.params.toList (Tryz.f3.params.toList++Rows.limitAllowsSpec.plain.varTypes Tryz.prog++Tryz.f3.resultTypes.toList))=true:=by kernel_rfl
end Go.Proofs.YtmaaepdecdhmnaaGreatDoor
end
