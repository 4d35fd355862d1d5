/- Part 31 of the proof. -/
import Derived.Test.YtmaaepdecdhmnaaGreatDoorRows
import Derived.JoinedOf
set_option linter.all false
section
open Go
namespace Go.Proofs.YtmaaepdecdhmnaaGreatDoor
set_option maxRecDepth 100000
def jf0:(Rows.limitGuardsRow.wf (OpenSpec.ofChange Rows.limitGuardsSpec))=true:=by kernel_rfl
def jf4:(namedTie Tryz.prog Rows.limitGuardsRow.named Rows.limitGuardsSpec.vars)=true:=by kernel_rfl
def jf8:((Tryz.prog.stopKnobs==[]))=true:=by kernel_rfl
def qHL:((Rows.limitGuardsRow.loops==(Tryz.f4.params.toList++Rows.limitGuardsSpec.plain.varTypes Tryz.prog).any (Tryz.prog.loopsFrom ·)))=true:=by kernel_rfl
def qHP:((Rows.limitGuardsRow.ifacesOut==Tryz.f4.resultTypes.toList.any (Tryz.prog.ifacesRec ·)))=true:=by kernel_rfl
def qHT:(Tryz.prog.stopsHeard)=true:=by kernel_rfl
def qHX:((Rows.limitGuardsRow.kinds==(if Rows.limitGuardsRow.domain.isEmpty then []else Tryz.f4.params.toList.map λt=>match Tryz.prog.underlying t with|some (.int k)=>some k|_=>none)))=true:=by kernel_rfl
