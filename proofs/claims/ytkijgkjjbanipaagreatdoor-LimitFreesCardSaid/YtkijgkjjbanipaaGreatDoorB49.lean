/- Part 49 of the proof: CbCa25Ff. -/
import Derived.Test.YtkijgkjjbanipaaGreatDoorB32
import Derived.Test.YtkijgkjjbanipaaGreatDoorRows
import Derived.SevenTiedAt
import Derived.KernelRfl
open Go
namespace Go.Proofs.YtkijgkjjbanipaaGreatDoor
set_option maxRecDepth 100000
theorem qC4:(clo.any fun g=>(Tryz.prog.funcs[g]?).any Func.goes)=false:=by kernel_rfl
end Go.Proofs.YtkijgkjjbanipaaGreatDoor

