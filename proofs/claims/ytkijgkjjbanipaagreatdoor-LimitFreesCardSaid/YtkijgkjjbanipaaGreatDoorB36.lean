/- Part 36 of the proof: CbJf25Fe. -/
import Derived.Test.YtkijgkjjbanipaaGreatDoorB32
import Derived.Test.YtkijgkjjbanipaaGreatDoorRows
import Derived.JoinedOf
import Derived.KernelRfl
open Go
namespace Go.Proofs.YtkijgkjjbanipaaGreatDoor
set_option maxRecDepth 100000
theorem qEL:(clo.flatMap fun g=>((Tryz.prog.funcs[g]?).bind (·.body)).elim [] Code.globalsNamed)=qwV:=by kernel_rfl
theorem qEl:(clo.filterMap fun g=>(Tryz.prog.funcs[g]?).bind fun fn=>if fn.body.isNone then entryReads.lookup fn.name else none)=["internal/bytealg.MaxLen"]:=by kernel_rfl
theorem qAx:((Rows.limitFreesRow.named==Tryz.prog.varsNamed 6))=true:=by
 unfold Program.varsNamed;rw[qmv,qEL,qEl];kernel_rfl
end Go.Proofs.YtkijgkjjbanipaaGreatDoor

