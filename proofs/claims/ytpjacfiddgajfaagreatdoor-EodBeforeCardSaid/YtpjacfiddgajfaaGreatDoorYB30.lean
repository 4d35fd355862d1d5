/- Part 30 of the proof: CbDo52Yc. -/
import Derived.Test.YtpjacfiddgajfaaGreatDoorRows
import Derived.Lay
import Derived.KernelRfl
open Go
namespace Go.Proofs.YtpjacfiddgajfaaGreatDoor
set_option maxRecDepth 100000
theorem wzip (os : Os) (args : Array Value) : ((World.laidAll Tryz.prog os Rows.eodBeforeRow.laid).forCall (fun _ _ => 0) ⟨#[], args, []⟩).variablesZipB Tryz.prog = true := by kernel_rfl
end Go.Proofs.YtpjacfiddgajfaaGreatDoor

