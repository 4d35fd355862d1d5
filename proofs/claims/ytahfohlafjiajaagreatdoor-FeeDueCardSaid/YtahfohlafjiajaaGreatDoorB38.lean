/- Part 38 of the proof: CbJf28De. -/
import Derived.Test.YtahfohlafjiajaaGreatDoorB34
import Derived.Test.YtahfohlafjiajaaGreatDoorRows
import Derived.JoinedOf
import Derived.KernelRfl
open Go
namespace Go.Proofs.YtahfohlafjiajaaGreatDoor
set_option maxRecDepth 100000
theorem qyH:(clo.flatMap fun g=>((Tryz.prog.funcs[g]?).bind (·.body)).elim [] Code.globalsNamed)=qyG:=by kernel_rfl
theorem qyI:(clo.filterMap fun g=>(Tryz.prog.funcs[g]?).bind fun fn=>if fn.body.isNone then entryReads.lookup fn.name else none)=["internal/bytealg.MaxLen"]:=by kernel_rfl
theorem qz2:((Rows.feeDueRow.named==Tryz.prog.varsNamed 3))=true:=by
 unfold Program.varsNamed;rw[qmH,qyH,qyI];kernel_rfl
end Go.Proofs.YtahfohlafjiajaaGreatDoor

