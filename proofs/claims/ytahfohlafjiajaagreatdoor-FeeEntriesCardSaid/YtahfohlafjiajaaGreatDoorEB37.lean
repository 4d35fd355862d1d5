/- Part 37 of the proof: CbJf28Ed. -/
import Derived.Test.YtahfohlafjiajaaGreatDoorRows
import Derived.JoinedOf
import Derived.KernelRfl
open Go
namespace Go.Proofs.YtahfohlafjiajaaGreatDoor
set_option maxRecDepth 100000
theorem jf3:(Tryz.f4.params.all (Tryz.prog.readableRec ·))=true:=by kernel_rfl
theorem jf7:((Rows.feeEntriesRow.knobs==[]))=true:=by kernel_rfl
theorem qAr:((Rows.feeEntriesRow.recurses==Tryz.prog.recurses 4))=true:=by kernel_rfl
theorem qAv:((Rows.feeEntriesRow.mapsOut==Tryz.prog.mapsAmong Tryz.f4.resultTypes.toList))=true:=by kernel_rfl
theorem qAz:(Tryz.f4.resultTypes.all (fun t=>Tryz.prog.readableRec t&&decide (t<Tryz.prog.types.size)))=true:=by kernel_rfl
theorem qAD:(Rows.feeEntriesRow.shortTexts.isNone)=true:=by kernel_rfl
theorem qAH:((Tryz.prog.make==some Rows.feeEntriesRow.make))=true:=by kernel_rfl
theorem qAL:(Rows.feeEntriesRow.veiledFits Tryz.prog Tryz.f4.params.toList (Tryz.f4.params.toList++Rows.feeEntriesSpec.plain.varTypes Tryz.prog++Tryz.f4.resultTypes.toList))=true:=by kernel_rfl
end Go.Proofs.YtahfohlafjiajaaGreatDoor

