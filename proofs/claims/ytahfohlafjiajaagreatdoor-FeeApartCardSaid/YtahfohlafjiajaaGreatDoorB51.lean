/- Part 51 of the proof: CbCa28Ae. -/
import Derived.Test.YtahfohlafjiajaaGreatDoorB45
import Derived.Test.YtahfohlafjiajaaGreatDoorB49
import Derived.Test.YtahfohlafjiajaaGreatDoorB50
import Derived.Test.YtahfohlafjiajaaGreatDoorB32
import Derived.Test.YtahfohlafjiajaaGreatDoorRows
import Derived.SevenTiedAt
import Derived.KernelRfl
open Go
namespace Go.Proofs.YtahfohlafjiajaaGreatDoor
set_option maxRecDepth 100000
theorem qwa:false=Rows.feeApartRow.goesBy Tryz.prog:=by
 have h:Rows.feeApartRow.goesBy Tryz.prog=(((Tryz.prog.funcNamed "corebank/corebanklaw28.FeeApart").any Tryz.prog.goes)||false):=rfl
 rw[h,cfun,Option.any_some,Bool.or_false];unfold Program.goes;rw[qmK,qCO,qCw];rfl
end Go.Proofs.YtahfohlafjiajaaGreatDoor

