/- Part 53 of the proof: CbCa25He. -/
import Derived.Test.YtcihddahcplehaaGreatDoorB48
import Derived.Test.YtcihddahcplehaaGreatDoorB51
import Derived.Test.YtcihddahcplehaaGreatDoorB52
import Derived.Test.YtcihddahcplehaaGreatDoorB35
import Derived.Test.YtcihddahcplehaaGreatDoorRows
import Derived.SevenTiedAt
import Derived.KernelRfl
open Go
namespace Go.Proofs.YtcihddahcplehaaGreatDoor
set_option maxRecDepth 100000
theorem qDt:false=Rows.limitHoldsRow.goesBy Tryz.prog:=by
 have h:Rows.limitHoldsRow.goesBy Tryz.prog=(((Tryz.prog.funcNamed "corebank/corebanklaw25.LimitHolds").any Tryz.prog.goes)||false):=rfl
 rw[h,cfun,Option.any_some,Bool.or_false];unfold Program.goes;rw[qmF,qIZ,qHj];rfl
end Go.Proofs.YtcihddahcplehaaGreatDoor

