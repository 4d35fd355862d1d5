/- Part 38 of the proof: CbJf28Ee. -/
import Derived.Test.YtahfohlafjiajaaGreatDoorEB34
import Derived.Test.YtahfohlafjiajaaGreatDoorRows
import Derived.JoinedOf
import Derived.KernelRfl
open Go
namespace Go.Proofs.YtahfohlafjiajaaGreatDoor
set_option maxRecDepth 100000
theorem qy5:(clo.flatMap fun g=>((Tryz.prog.funcs[g]?).bind (·.body)).elim [] Code.globalsNamed)=qy4:=by kernel_rfl
theorem qy6:(clo.filterMap fun g=>(Tryz.prog.funcs[g]?).bind fun fn=>if fn.body.isNone then entryReads.lookup fn.name else none)=["internal/bytealg.MaxLen"]:=by kernel_rfl
theorem qAs:((Rows.feeEntriesRow.named==Tryz.prog.varsNamed 4))=true:=by
 unfold Program.varsNamed;rw[qmU,qy5,qy6];kernel_rfl
end Go.Proofs.YtahfohlafjiajaaGreatDoor

