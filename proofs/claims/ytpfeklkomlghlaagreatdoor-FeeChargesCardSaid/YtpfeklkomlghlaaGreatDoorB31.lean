/- Part 31 of the proof. -/
import Derived.Test.YtpfeklkomlghlaaGreatDoorRows
import Derived.JoinedOf
set_option linter.all false
section
open Go
namespace Go.Proofs.YtpfeklkomlghlaaGreatDoor
set_option maxRecDepth 100000
def jf0:(Rows.feeChargesRow.wf (OpenSpec.ofChange Rows.feeChargesSpec))=true:=by kernel_rfl
def jf4:(namedTie Tryz.prog Rows.feeChargesRow.named Rows.feeChargesSpec.vars)=true:=by kernel_rfl
def jf8:((Tryz.prog.stopKnobs==[]))=true:=by kernel_rfl
def qHl:((Rows.feeChargesRow.loops==(Tryz.f3.params.toList++Rows.feeChargesSpec.plain.varTypes Tryz.prog).any (Tryz.prog.loopsFrom ·)))=true:=by kernel_rfl
def qHp:((Rows.feeChargesRow.ifacesOut==Tryz.f3.resultTypes.toList.any (Tryz.prog.ifacesRec ·)))=true:=by kernel_rfl
def qHt:(Tryz.prog.stopsHeard)=true:=by kernel_rfl
def qHx:((Rows.feeChargesRow.kinds==(if Rows.feeChargesRow.domain.isEmpty then []else Tryz.f3.params.toList.map λt=>match Tryz.prog.underlying t with|some (.int k)=>some k|_=>none)))=true:=by kernel_rfl
