/- Part 50 of the proof. -/
import Derived.Test.YtmaaepdecdhmnaaGreatDoorB35
import Derived.Test.YtmaaepdecdhmnaaGreatDoorRows
import Derived.SevenTiedAt
import Derived.KernelRfl
section
open Go
namespace Go.Proofs.YtmaaepdecdhmnaaGreatDoor
set_option maxRecDepth 100000
theorem qzD:(clo.any fun g=>(Tryz.prog.funcs[g]?).any Func.goes)=false:=by kernel_rfl
end Go.Proofs.YtmaaepdecdhmnaaGreatDoor
end
