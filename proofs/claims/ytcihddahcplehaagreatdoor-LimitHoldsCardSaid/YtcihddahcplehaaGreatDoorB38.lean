/- Part 38 of the proof: CbJf25Hd. -/
import Derived.Test.YtcihddahcplehaaGreatDoorRows
import Derived.JoinedOf
import Derived.KernelRfl
open Go
namespace Go.Proofs.YtcihddahcplehaaGreatDoor
set_option maxRecDepth 100000
theorem jf3:(Tryz.f3.params.all (Tryz.prog.readableRec ·))=true:=by kernel_rfl
theorem jf7:((Rows.limitHoldsRow.knobs==[]))=true:=by kernel_rfl
theorem qLF:((Rows.limitHoldsRow.recurses==Tryz.prog.recurses 3))=true:=by kernel_rfl
theorem qFT:((Rows.limitHoldsRow.mapsOut==Tryz.prog.mapsAmong Tryz.f3.resultTypes.toList))=true:=by kernel_rfl
theorem qF7:(Tryz.f3.resultTypes.all (fun t=>Tryz.prog.readableRec t&&decide (t<Tryz.prog.types.size)))=true:=by kernel_rfl
theorem qHM:(Rows.limitHoldsRow.shortTexts.isNone)=true:=by kernel_rfl
theorem qHg:((Tryz.prog.make==some Rows.limitHoldsRow.make))=true:=by kernel_rfl
theorem qIB:(Rows.limitHoldsRow.veiledFits Tryz.prog Tryz.f3.params.toList (Tryz.f3.params.toList++Rows.limitHoldsSpec.plain.varTypes Tryz.prog++Tryz.f3.resultTypes.toList))=true:=by kernel_rfl
end Go.Proofs.YtcihddahcplehaaGreatDoor

