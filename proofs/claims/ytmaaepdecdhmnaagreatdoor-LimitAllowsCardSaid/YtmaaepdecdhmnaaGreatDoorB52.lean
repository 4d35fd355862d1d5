/- Part 52 of the proof. -/
import Derived.Test.YtmaaepdecdhmnaaGreatDoorB48
import Derived.Test.YtmaaepdecdhmnaaGreatDoorB50
import Derived.Test.YtmaaepdecdhmnaaGreatDoorB51
import Derived.Test.YtmaaepdecdhmnaaGreatDoorB35
import Derived.Test.YtmaaepdecdhmnaaGreatDoorRows
import Derived.SevenTiedAt
import Derived.KernelRfl
section
open Go
namespace Go.Proofs.YtmaaepdecdhmnaaGreatDoor
set_option maxRecDepth 100000
theorem qzG:false=Rows.limitAllowsRow.goesBy Tryz.prog:=by
 have h:Rows.limitAllowsRow.goesBy Tryz.prog=(((Tryz.prog.funcNamed "corebank/corebanklaw25.LimitAllows").any Tryz.prog.goes)||false):=rfl
 rw[h,cfun,Option.any_some,Bool.or_false];unfold Program.goes;rw[qnJ,qzD,qzE];rfl
end Go.Proofs.YtmaaepdecdhmnaaGreatDoor
end
