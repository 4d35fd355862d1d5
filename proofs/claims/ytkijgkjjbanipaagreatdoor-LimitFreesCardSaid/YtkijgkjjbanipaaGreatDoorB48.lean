/- Part 48 of the proof: CbCa25Fd. -/
import Derived.Test.YtkijgkjjbanipaaGreatDoorRows
import Derived.SevenTiedAt
import Derived.KernelRfl
open Go
namespace Go.Proofs.YtkijgkjjbanipaaGreatDoor
set_option maxRecDepth 100000
theorem qyt:([33,51].all fun u => !Tryz.prog.wantsStandIn u)=true:=by kernel_rfl
end Go.Proofs.YtkijgkjjbanipaaGreatDoor

