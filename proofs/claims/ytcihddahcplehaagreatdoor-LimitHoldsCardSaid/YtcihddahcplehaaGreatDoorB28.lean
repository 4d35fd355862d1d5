/- Part 28 of the proof: CbLo25H. -/
import Derived.Test.YtcihddahcplehaaGreatDoorProg
import GoSem.ClaimDataLaid
import Derived.KernelRfl
open Go
namespace Go.Proofs.YtcihddahcplehaaGreatDoor
set_option maxRecDepth 100000
theorem nty:Tryz.prog.types.size=367:=by kernel_rfl
theorem lo1:(List.range 367).all (rowFine Tryz.prog)=true:=by kernel_rfl
theorem lo2:Tryz.prog.globals.all (fun g=>decide (g.type<367))=true:=by kernel_rfl
theorem lo3:Tryz.prog.funcs.all (fun f=>f.params.all fun t=>decide (t<367))=true:=by kernel_rfl
theorem qxr:laidOutB Tryz.prog=true:=by
 unfold laidOutB;rw[nty,lo1,lo2,lo3];rfl
end Go.Proofs.YtcihddahcplehaaGreatDoor

