/- Part 27 of the proof: CbLo52Y. -/
import Derived.Test.YtpjacfiddgajfaaGreatDoorProg
import GoSem.ClaimDataLaid
import Derived.KernelRfl
open Go
namespace Go.Proofs.YtpjacfiddgajfaaGreatDoor
set_option maxRecDepth 100000
theorem nty : Tryz.prog.types.size = 700 := by kernel_rfl
theorem lo1 : (List.range 700).all (rowFine Tryz.prog) = true := by kernel_rfl
theorem lo2 : Tryz.prog.globals.all (fun g => decide (g.type < 700)) = true := by kernel_rfl
theorem lo3 : Tryz.prog.funcs.all (fun f => f.params.all fun t => decide (t < 700)) = true := by kernel_rfl
theorem laidOut : laidOutB Tryz.prog = true := by
 unfold laidOutB
 rw [nty, lo1, lo2, lo3]
 rfl
end Go.Proofs.YtpjacfiddgajfaaGreatDoor

