/- Part 36 of the proof: CbJf28Ae. -/
import Derived.Test.YtahfohlafjiajaaGreatDoorB32
import Derived.Test.YtahfohlafjiajaaGreatDoorRows
import Derived.JoinedOf
import Derived.KernelRfl
open Go
namespace Go.Proofs.YtahfohlafjiajaaGreatDoor
set_option maxRecDepth 100000
theorem qDZ:(clo.flatMap fun g=>((Tryz.prog.funcs[g]?).bind (·.body)).elim [] Code.globalsNamed)=qDk:=by kernel_rfl
theorem qxO:(clo.filterMap fun g=>(Tryz.prog.funcs[g]?).bind fun fn=>if fn.body.isNone then entryReads.lookup fn.name else none)=["internal/bytealg.MaxLen"]:=by kernel_rfl
theorem qA7:((Rows.feeApartRow.named==Tryz.prog.varsNamed 5))=true:=by
 unfold Program.varsNamed;rw[qmK,qDZ,qxO];kernel_rfl
end Go.Proofs.YtahfohlafjiajaaGreatDoor

