/- Part 34 of the proof: CbJf25Fc. -/
import Derived.Test.YtkijgkjjbanipaaGreatDoorRows
import Derived.Test.YtkijgkjjbanipaaGreatDoorB32
import Derived.JoinedOf
import Derived.KernelRfl
open Go
namespace Go.Proofs.YtkijgkjjbanipaaGreatDoor
set_option maxRecDepth 100000
theorem jf2:(mapsRowed Tryz.prog)=true:=by kernel_rfl
theorem jf6:((Tryz.prog.stops==[]))=true:=by kernel_rfl
theorem qEV:((Rows.limitFreesRow.unfollowed==Tryz.prog.unfollowed 6))=true:=by unfold Program.unfollowed;rw[qmv];kernel_rfl
theorem qxQ:((Rows.limitFreesRow.ifaces==(Tryz.f6.params.toList++Rows.limitFreesSpec.plain.varTypes Tryz.prog).any (Tryz.prog.ifacesRec ·)))=true:=by kernel_rfl
theorem qAE:(Rows.limitFreesSpec.vars.all (Tryz.prog.varReadable ·))=true:=by kernel_rfl
theorem qEF:((Rows.limitFreesRow.plainKeys==Tryz.prog.plainKeys))=true:=by kernel_rfl
theorem qxv:((Rows.limitFreesRow.lifted==Tryz.prog.liftsFinal))=true:=by kernel_rfl
theorem qyh:((Rows.limitFreesRow.veiled==(Tryz.f6.params.toList++Rows.limitFreesSpec.plain.varTypes Tryz.prog++Tryz.f6.resultTypes.toList).any (Tryz.prog.veiledRec ·)))=true:=by kernel_rfl
end Go.Proofs.YtkijgkjjbanipaaGreatDoor

