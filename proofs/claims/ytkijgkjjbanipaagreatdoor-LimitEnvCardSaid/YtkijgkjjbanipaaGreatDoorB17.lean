/- Part 17 of the proof: CbLo25E. -/
import Derived.Test.YtkijgkjjbanipaaGreatDoorProg
import GoSem.ClaimDataLaid
import Derived.KernelRfl
set_option linter.all false
open Go
namespace Go.Proofs.YtkijgkjjbanipaaGreatDoor
set_option maxRecDepth 100000
theorem nty : Tryz.prog.types.size = 397 := by kernel_rfl
theorem lo1 : (List.range 397).all (rowFine Tryz.prog) = true := by kernel_rfl
theorem lo2 : Tryz.prog.globals.all (fun g => decide (g.type < 397)) = true := by kernel_rfl
theorem lo3 : Tryz.prog.funcs.all (fun f => f.params.all fun t => decide (t < 397)) = true := by kernel_rfl
theorem laidOut : laidOutB Tryz.prog = true := by
 unfold laidOutB
 rw [nty, lo1, lo2, lo3]
 rfl
end Go.Proofs.YtkijgkjjbanipaaGreatDoor

