/- Part 28 of the proof. -/
import Derived.Test.YtpfeklkomlghlaaGreatDoorProg
import GoSem.ClaimDataLaid
import Derived.KernelRfl
set_option linter.all false
section
open Go
namespace Go.Proofs.YtpfeklkomlghlaaGreatDoor
set_option maxRecDepth 100000
def nty:Tryz.prog.types.size=356:=by kernel_rfl
def lo1:(List.range 356).all (rowFine Tryz.prog)=true:=by kernel_rfl
def lo2:Tryz.prog.globals.all (λg=>decide (g.type<356))=true:=by kernel_rfl
def lo3:Tryz.prog.funcs.all (λf=>f.params.all λt=>decide (t<356))=true:=by kernel_rfl
def qzU:laidOutB Tryz.prog=true:=by unfold laidOutB;rw[nty,lo1,lo2,lo3];rfl
