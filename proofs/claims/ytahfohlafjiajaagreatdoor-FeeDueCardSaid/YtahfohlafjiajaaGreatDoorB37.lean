/- Part 37 of the proof: CbJf28Dd. -/
import Derived.Test.YtahfohlafjiajaaGreatDoorRows
import Derived.JoinedOf
import Derived.KernelRfl
open Go
namespace Go.Proofs.YtahfohlafjiajaaGreatDoor
set_option maxRecDepth 100000
theorem jf3:(Tryz.f3.params.all (Tryz.prog.readableRec ·))=true:=by kernel_rfl
theorem jf7:((Rows.feeDueRow.knobs==[]))=true:=by kernel_rfl
theorem qz1:((Rows.feeDueRow.recurses==Tryz.prog.recurses 3))=true:=by kernel_rfl
theorem qz5:((Rows.feeDueRow.mapsOut==Tryz.prog.mapsAmong Tryz.f3.resultTypes.toList))=true:=by kernel_rfl
theorem qz9:(Tryz.f3.resultTypes.all (fun t=>Tryz.prog.readableRec t&&decide (t<Tryz.prog.types.size)))=true:=by kernel_rfl
theorem qAd:(Rows.feeDueRow.shortTexts.isNone)=true:=by kernel_rfl
theorem qAh:((Tryz.prog.make==some Rows.feeDueRow.make))=true:=by kernel_rfl
theorem qAl:(Rows.feeDueRow.veiledFits Tryz.prog Tryz.f3.params.toList (Tryz.f3.params.toList++Rows.feeDueSpec.plain.varTypes Tryz.prog++Tryz.f3.resultTypes.toList))=true:=by kernel_rfl
end Go.Proofs.YtahfohlafjiajaaGreatDoor

