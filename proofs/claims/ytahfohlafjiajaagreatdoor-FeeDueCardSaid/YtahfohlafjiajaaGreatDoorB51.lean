/- Part 51 of the proof: CbCa28De. -/
import Derived.Test.YtahfohlafjiajaaGreatDoorB47
import Derived.Test.YtahfohlafjiajaaGreatDoorB49
import Derived.Test.YtahfohlafjiajaaGreatDoorB50
import Derived.Test.YtahfohlafjiajaaGreatDoorB34
import Derived.Test.YtahfohlafjiajaaGreatDoorRows
import Derived.SevenTiedAt
import Derived.KernelRfl
open Go
namespace Go.Proofs.YtahfohlafjiajaaGreatDoor
set_option maxRecDepth 100000
theorem qyy:false=Rows.feeDueRow.goesBy Tryz.prog:=by
 have h:Rows.feeDueRow.goesBy Tryz.prog=(((Tryz.prog.funcNamed "corebank/corebanklaw28.FeeDue").any Tryz.prog.goes)||false):=rfl
 rw[h,cfun,Option.any_some,Bool.or_false];unfold Program.goes;rw[qmH,qyv,qyw];rfl
end Go.Proofs.YtahfohlafjiajaaGreatDoor

