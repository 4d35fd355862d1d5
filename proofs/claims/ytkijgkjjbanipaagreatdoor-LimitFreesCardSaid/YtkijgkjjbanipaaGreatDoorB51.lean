/- Part 51 of the proof: CbCa25Fe. -/
import Derived.Test.YtkijgkjjbanipaaGreatDoorB45
import Derived.Test.YtkijgkjjbanipaaGreatDoorB49
import Derived.Test.YtkijgkjjbanipaaGreatDoorB50
import Derived.Test.YtkijgkjjbanipaaGreatDoorB32
import Derived.Test.YtkijgkjjbanipaaGreatDoorRows
import Derived.SevenTiedAt
import Derived.KernelRfl
open Go
namespace Go.Proofs.YtkijgkjjbanipaaGreatDoor
set_option maxRecDepth 100000
theorem qz5:false=Rows.limitFreesRow.goesBy Tryz.prog:=by
 have h:Rows.limitFreesRow.goesBy Tryz.prog=(((Tryz.prog.funcNamed "corebank/corebanklaw25.LimitFrees").any Tryz.prog.goes)||false):=rfl
 rw[h,cfun,Option.any_some,Bool.or_false];unfold Program.goes;rw[qmv,qC4,qE0];rfl
end Go.Proofs.YtkijgkjjbanipaaGreatDoor

