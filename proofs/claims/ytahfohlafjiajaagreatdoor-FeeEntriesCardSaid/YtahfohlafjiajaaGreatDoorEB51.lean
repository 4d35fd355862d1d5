/- Part 51 of the proof: CbCa28Ee. -/
import Derived.Test.YtahfohlafjiajaaGreatDoorEB47
import Derived.Test.YtahfohlafjiajaaGreatDoorEB49
import Derived.Test.YtahfohlafjiajaaGreatDoorEB50
import Derived.Test.YtahfohlafjiajaaGreatDoorEB34
import Derived.Test.YtahfohlafjiajaaGreatDoorRows
import Derived.SevenTiedAt
import Derived.KernelRfl
open Go
namespace Go.Proofs.YtahfohlafjiajaaGreatDoor
set_option maxRecDepth 100000
theorem qyW:false=Rows.feeEntriesRow.goesBy Tryz.prog:=by
 have h:Rows.feeEntriesRow.goesBy Tryz.prog=(((Tryz.prog.funcNamed "corebank/corebanklaw28.FeeEntries").any Tryz.prog.goes)||false):=rfl
 rw[h,cfun,Option.any_some,Bool.or_false];unfold Program.goes;rw[qmU,qyT,qyU];rfl
end Go.Proofs.YtahfohlafjiajaaGreatDoor

