/- Part 31 of the proof: CbJf28Aa. -/
import Derived.Test.YtahfohlafjiajaaGreatDoorRows
import Derived.JoinedOf
import Derived.KernelRfl
open Go
namespace Go.Proofs.YtahfohlafjiajaaGreatDoor
set_option maxRecDepth 100000
theorem jf0:(Rows.feeApartRow.wf (OpenSpec.ofChange Rows.feeApartSpec))=true:=by kernel_rfl
theorem jf4:(namedTie Tryz.prog Rows.feeApartRow.named Rows.feeApartSpec.vars)=true:=by kernel_rfl
theorem jf8:((Tryz.prog.stopKnobs==[]))=true:=by kernel_rfl
theorem qA3:((Rows.feeApartRow.loops==(Tryz.f5.params.toList++Rows.feeApartSpec.plain.varTypes Tryz.prog).any (Tryz.prog.loopsFrom ·)))=true:=by kernel_rfl
theorem qzx:((Rows.feeApartRow.ifacesOut==Tryz.f5.resultTypes.toList.any (Tryz.prog.ifacesRec ·)))=true:=by kernel_rfl
theorem qv1:(Tryz.prog.stopsHeard)=true:=by kernel_rfl
theorem qBM:((Rows.feeApartRow.kinds==(if Rows.feeApartRow.domain.isEmpty then [] else Tryz.f5.params.toList.map fun t=>match Tryz.prog.underlying t with|some (.int k)=>some k|_=>none)))=true:=by kernel_rfl
end Go.Proofs.YtahfohlafjiajaaGreatDoor

