/- Part 37 of the proof: CbJf25Hc. -/
import Derived.Test.YtcihddahcplehaaGreatDoorRows
import Derived.Test.YtcihddahcplehaaGreatDoorB35
import Derived.JoinedOf
import Derived.KernelRfl
open Go
namespace Go.Proofs.YtcihddahcplehaaGreatDoor
set_option maxRecDepth 100000
theorem jf2:(mapsRowed Tryz.prog)=true:=by kernel_rfl
theorem jf6:((Tryz.prog.stops==[]))=true:=by kernel_rfl
theorem qLD:((Rows.limitHoldsRow.unfollowed==Tryz.prog.unfollowed 3))=true:=by unfold Program.unfollowed;rw[qmF];kernel_rfl
theorem qD7:((Rows.limitHoldsRow.ifaces==(Tryz.f3.params.toList++Rows.limitHoldsSpec.plain.varTypes Tryz.prog).any (Tryz.prog.ifacesRec ·)))=true:=by kernel_rfl
theorem qDi:(Rows.limitHoldsSpec.vars.all (Tryz.prog.varReadable ·))=true:=by kernel_rfl
theorem qIP:((Rows.limitHoldsRow.plainKeys==Tryz.prog.plainKeys))=true:=by kernel_rfl
theorem qJ8:((Rows.limitHoldsRow.lifted==Tryz.prog.liftsFinal))=true:=by kernel_rfl
theorem qDz:((Rows.limitHoldsRow.veiled==(Tryz.f3.params.toList++Rows.limitHoldsSpec.plain.varTypes Tryz.prog++Tryz.f3.resultTypes.toList).any (Tryz.prog.veiledRec ·)))=true:=by kernel_rfl
end Go.Proofs.YtcihddahcplehaaGreatDoor

