/- Part 35 of the proof: CbJf25Fd. -/
import Derived.Test.YtkijgkjjbanipaaGreatDoorRows
import Derived.JoinedOf
import Derived.KernelRfl
open Go
namespace Go.Proofs.YtkijgkjjbanipaaGreatDoor
set_option maxRecDepth 100000
theorem jf3:(Tryz.f6.params.all (Tryz.prog.readableRec ·))=true:=by kernel_rfl
theorem jf7:((Rows.limitFreesRow.knobs==[]))=true:=by kernel_rfl
theorem qFG:((Rows.limitFreesRow.recurses==Tryz.prog.recurses 6))=true:=by kernel_rfl
theorem qwe:((Rows.limitFreesRow.mapsOut==Tryz.prog.mapsAmong Tryz.f6.resultTypes.toList))=true:=by kernel_rfl
theorem qCZ:(Tryz.f6.resultTypes.all (fun t=>Tryz.prog.readableRec t&&decide (t<Tryz.prog.types.size)))=true:=by kernel_rfl
theorem qEI:(Rows.limitFreesRow.shortTexts.isNone)=true:=by kernel_rfl
theorem qwS:((Tryz.prog.make==some Rows.limitFreesRow.make))=true:=by kernel_rfl
theorem qAf:(Rows.limitFreesRow.veiledFits Tryz.prog Tryz.f6.params.toList (Tryz.f6.params.toList++Rows.limitFreesSpec.plain.varTypes Tryz.prog++Tryz.f6.resultTypes.toList))=true:=by kernel_rfl
end Go.Proofs.YtkijgkjjbanipaaGreatDoor

