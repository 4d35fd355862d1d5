/- Part 28 of the proof: CbDo52Ya. -/
import Derived.Test.YtpjacfiddgajfaaGreatDoorRows
import Derived.Lay
import Derived.KernelRfl
open Go
namespace Go.Proofs.YtpjacfiddgajfaaGreatDoor
set_option maxRecDepth 100000
theorem wfits (os : Os) : (World.holding Tryz.prog os ⟨#[], #[], []⟩).layFits Tryz.prog Rows.eodBeforeRow.laid [] = true := by kernel_rfl
end Go.Proofs.YtpjacfiddgajfaaGreatDoor

