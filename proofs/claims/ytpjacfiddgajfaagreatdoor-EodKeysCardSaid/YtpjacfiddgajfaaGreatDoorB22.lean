/- Part 22 of the proof: CbDo52a. -/
import Derived.Test.YtpjacfiddgajfaaGreatDoorRows
import Derived.Lay
import Derived.KernelRfl
open Go
namespace Go.Proofs.YtpjacfiddgajfaaGreatDoor
set_option maxRecDepth 100000
theorem wfits (os : Os) : (World.holding Tryz.prog os ⟨#[], #[], []⟩).layFits Tryz.prog Rows.eodKeysRow.laid [] = true := by kernel_rfl
end Go.Proofs.YtpjacfiddgajfaaGreatDoor

