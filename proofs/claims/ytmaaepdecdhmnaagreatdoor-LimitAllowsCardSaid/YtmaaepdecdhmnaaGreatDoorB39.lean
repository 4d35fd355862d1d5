/- Part 39 of the proof. -/
import Derived.Test.YtmaaepdecdhmnaaGreatDoorB35
import Derived.Test.YtmaaepdecdhmnaaGreatDoorRows
import Derived.JoinedOf
import Derived.KernelRfl
section
open Go
namespace Go.Proofs.YtmaaepdecdhmnaaGreatDoor
set_option maxRecDepth 100000
theorem qzN:(clo.flatMap fun g=>((Tryz.prog.funcs[g]?).bind (·.body)).elim [] Code.globalsNamed)=qzM:=by kernel_rfl
theorem qzO:(clo.filterMap fun g=>(Tryz.prog.funcs[g]?).bind fun fn=>if fn.body.isNone then entryReads.lookup fn.name else none)=["internal/bytealg.MaxLen"]:=by kernel_rfl
theorem qBe:((Rows.limitAllowsRow.named==Tryz.prog.varsNamed 3))=true:=by
 unfold Program.varsNamed;rw[qnJ,qzN,qzO];kernel_rfl
end Go.Proofs.YtmaaepdecdhmnaaGreatDoor
end
