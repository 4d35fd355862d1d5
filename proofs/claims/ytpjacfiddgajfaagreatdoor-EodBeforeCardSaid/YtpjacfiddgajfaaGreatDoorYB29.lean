/- Part 29 of the proof: CbDo52Yb. -/
import Derived.Test.YtpjacfiddgajfaaGreatDoorRows
import Derived.Lay
import Derived.KernelRfl
open Go
namespace Go.Proofs.YtpjacfiddgajfaaGreatDoor
set_option maxRecDepth 100000
theorem wifaces (os : Os) : (World.holding Tryz.prog os ⟨#[], #[], []⟩).layIfaces Tryz.prog Rows.eodBeforeRow.laid (World.laidAll Tryz.prog os Rows.eodBeforeRow.laid) = true := by kernel_rfl
end Go.Proofs.YtpjacfiddgajfaaGreatDoor

