/- Part 27 of the proof: CbLo28E. -/
import Derived.Test.YtahfohlafjiajaaGreatDoorProg
import GoSem.ClaimDataLaid
import Derived.KernelRfl
open Go
namespace Go.Proofs.YtahfohlafjiajaaGreatDoor
set_option maxRecDepth 100000
theorem nty:Tryz.prog.types.size=384:=by kernel_rfl
theorem lo1:(List.range 384).all (rowFine Tryz.prog)=true:=by kernel_rfl
theorem lo2:Tryz.prog.globals.all (fun g=>decide (g.type<384))=true:=by kernel_rfl
theorem lo3:Tryz.prog.funcs.all (fun f=>f.params.all fun t=>decide (t<384))=true:=by kernel_rfl
theorem qvn:laidOutB Tryz.prog=true:=by
 unfold laidOutB;rw[nty,lo1,lo2,lo3];rfl
end Go.Proofs.YtahfohlafjiajaaGreatDoor

