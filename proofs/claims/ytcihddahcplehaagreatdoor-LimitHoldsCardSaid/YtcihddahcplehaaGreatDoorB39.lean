/- Part 39 of the proof: CbJf25He. -/
import Derived.Test.YtcihddahcplehaaGreatDoorB35
import Derived.Test.YtcihddahcplehaaGreatDoorRows
import Derived.JoinedOf
import Derived.KernelRfl
open Go
namespace Go.Proofs.YtcihddahcplehaaGreatDoor
set_option maxRecDepth 100000
theorem qKc:(clo.flatMap fun g=>((Tryz.prog.funcs[g]?).bind (·.body)).elim [] Code.globalsNamed)=qHE:=by kernel_rfl
theorem qAP:(clo.filterMap fun g=>(Tryz.prog.funcs[g]?).bind fun fn=>if fn.body.isNone then entryReads.lookup fn.name else none)=["internal/bytealg.MaxLen"]:=by kernel_rfl
theorem qKA:((Rows.limitHoldsRow.named==Tryz.prog.varsNamed 3))=true:=by
 unfold Program.varsNamed;rw[qmF,qKc,qAP];kernel_rfl
end Go.Proofs.YtcihddahcplehaaGreatDoor

