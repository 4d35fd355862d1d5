/- Part 33 of the proof. -/
import Derived.Test.YtpfeklkomlghlaaGreatDoorB32
set_option linter.all false
section
open Go
namespace Go.Proofs.YtpfeklkomlghlaaGreatDoor
set_option maxRecDepth 100000
def jf2:(mapsRowed Tryz.prog)=true:=by kernel_rfl
def jf6:((Tryz.prog.stops==[]))=true:=by kernel_rfl
def qHf:((Rows.feeChargesRow.unfollowed==Tryz.prog.unfollowed 3))=true:=by unfold Program.unfollowed;rw[qoG];kernel_rfl
def qHj:((Rows.feeChargesRow.ifaces==(Tryz.f3.params.toList++Rows.feeChargesSpec.plain.varTypes Tryz.prog).any (Tryz.prog.ifacesRec ·)))=true:=by kernel_rfl
def qHn:(Rows.feeChargesSpec.vars.all (Tryz.prog.varReadable ·))=true:=by kernel_rfl
def qHr:((Rows.feeChargesRow.plainKeys==Tryz.prog.plainKeys))=true:=by kernel_rfl
def qHv:((Rows.feeChargesRow.lifted==Tryz.prog.liftsFinal))=true:=by kernel_rfl
def qHz:((Rows.feeChargesRow.veiled==(Tryz.f3.params.toList++Rows.feeChargesSpec.plain.varTypes Tryz.prog++Tryz.f3.resultTypes.toList).any (Tryz.prog.veiledRec ·)))=true:=by kernel_rfl
