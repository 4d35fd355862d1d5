/- Part 33 of the proof. -/
import Derived.Test.YtmaaepdecdhmnaaGreatDoorHB32
set_option linter.all false
section
open Go
namespace Go.Proofs.YtmaaepdecdhmnaaGreatDoor
set_option maxRecDepth 100000
def jf2:(mapsRowed Tryz.prog)=true:=by kernel_rfl
def jf6:((Tryz.prog.stops==[]))=true:=by kernel_rfl
def qHF:((Rows.limitGuardsRow.unfollowed==Tryz.prog.unfollowed 4))=true:=by unfold Program.unfollowed;rw[qo0];kernel_rfl
def qHJ:((Rows.limitGuardsRow.ifaces==(Tryz.f4.params.toList++Rows.limitGuardsSpec.plain.varTypes Tryz.prog).any (Tryz.prog.ifacesRec ·)))=true:=by kernel_rfl
def qHN:(Rows.limitGuardsSpec.vars.all (Tryz.prog.varReadable ·))=true:=by kernel_rfl
def qHR:((Rows.limitGuardsRow.plainKeys==Tryz.prog.plainKeys))=true:=by kernel_rfl
def qHV:((Rows.limitGuardsRow.lifted==Tryz.prog.liftsFinal))=true:=by kernel_rfl
def qHZ:((Rows.limitGuardsRow.veiled==(Tryz.f4.params.toList++Rows.limitGuardsSpec.plain.varTypes Tryz.prog++Tryz.f4.resultTypes.toList).any (Tryz.prog.veiledRec ·)))=true:=by kernel_rfl
