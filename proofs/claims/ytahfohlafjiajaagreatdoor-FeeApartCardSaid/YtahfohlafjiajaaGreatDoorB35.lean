/- Part 35 of the proof: CbJf28Ad. -/
import Derived.Test.YtahfohlafjiajaaGreatDoorRows
import Derived.JoinedOf
import Derived.KernelRfl
open Go
namespace Go.Proofs.YtahfohlafjiajaaGreatDoor
set_option maxRecDepth 100000
theorem jf3:(Tryz.f5.params.all (Tryz.prog.readableRec ·))=true:=by kernel_rfl
theorem jf7:((Rows.feeApartRow.knobs==[]))=true:=by kernel_rfl
theorem qzl:((Rows.feeApartRow.recurses==Tryz.prog.recurses 5))=true:=by kernel_rfl
theorem qCi:((Rows.feeApartRow.mapsOut==Tryz.prog.mapsAmong Tryz.f5.resultTypes.toList))=true:=by kernel_rfl
theorem qAL:(Tryz.f5.resultTypes.all (fun t=>Tryz.prog.readableRec t&&decide (t<Tryz.prog.types.size)))=true:=by kernel_rfl
theorem qAJ:(Rows.feeApartRow.shortTexts.isNone)=true:=by kernel_rfl
theorem qAF:((Tryz.prog.make==some Rows.feeApartRow.make))=true:=by kernel_rfl
theorem qDO:(Rows.feeApartRow.veiledFits Tryz.prog Tryz.f5.params.toList (Tryz.f5.params.toList++Rows.feeApartSpec.plain.varTypes Tryz.prog++Tryz.f5.resultTypes.toList))=true:=by kernel_rfl
end Go.Proofs.YtahfohlafjiajaaGreatDoor

