/- Part 28 of the proof. -/
import Derived.Test.YtmaaepdecdhmnaaGreatDoorProg
import GoSem.ClaimDataLaid
import Derived.KernelRfl
section
open Go
namespace Go.Proofs.YtmaaepdecdhmnaaGreatDoor
set_option maxRecDepth 100000
theorem nty:Tryz.prog.types.size=385:=by kernel_rfl
theorem lo1:(List.range 385).all (rowFine Tryz.prog)=true:=by kernel_rfl
theorem lo2:Tryz.prog.globals.all (fun g=>decide (g.type<385))=true:=by kernel_rfl
theorem lo3:Tryz.prog.funcs.all (fun f=>f.params.all fun t=>decide (t<385))=true:=by kernel_rfl
theorem qwb:laidOutB Tryz.prog=true:=by
 unfold laidOutB;rw[nty,lo1,lo2,lo3];rfl
end Go.Proofs.YtmaaepdecdhmnaaGreatDoor
end
