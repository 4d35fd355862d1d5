/- Part 47 of the proof: CbCa25Fc. -/
import Derived.Test.YtkijgkjjbanipaaGreatDoorRows
import Derived.SevenTiedAt
import Derived.KernelRfl
open Go
namespace Go.Proofs.YtkijgkjjbanipaaGreatDoor
set_option maxRecDepth 100000
theorem qE5:true=Tryz.prog.looks []:=by kernel_rfl
end Go.Proofs.YtkijgkjjbanipaaGreatDoor

