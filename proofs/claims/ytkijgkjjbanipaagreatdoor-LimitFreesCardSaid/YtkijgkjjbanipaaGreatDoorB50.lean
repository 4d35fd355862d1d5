/- Part 50 of the proof: CbCa25Fg. -/
import Derived.Test.YtkijgkjjbanipaaGreatDoorRows
import Derived.SevenTiedAt
import Derived.KernelRfl
open Go
namespace Go.Proofs.YtkijgkjjbanipaaGreatDoor
set_option maxRecDepth 100000
theorem qEf:Tryz.prog.funcs.any Func.goes=false:=by kernel_rfl
theorem qE0:(Tryz.prog.unfollowed 6&&Tryz.prog.funcs.any Func.goes)=false:=by rw[qEf,Bool.and_false]
end Go.Proofs.YtkijgkjjbanipaaGreatDoor

