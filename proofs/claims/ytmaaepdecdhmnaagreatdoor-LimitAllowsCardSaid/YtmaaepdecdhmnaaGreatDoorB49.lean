/- Part 49 of the proof. -/
import Derived.Test.YtmaaepdecdhmnaaGreatDoorRows
import Derived.SevenTiedAt
import Derived.KernelRfl
section
open Go
namespace Go.Proofs.YtmaaepdecdhmnaaGreatDoor
set_option maxRecDepth 100000
theorem qzW:Tryz.prog.mainIs=some (true, "0bf118e6010913dd751bc11b45761ac2f5cbcf0bc2e2e1e064526ed66461a2a6".toList):=by kernel_rfl
end Go.Proofs.YtmaaepdecdhmnaaGreatDoor
end
section
open Go
namespace Go.Proofs.YtmaaepdecdhmnaaGreatDoor
set_option maxRecDepth 100000
theorem qzP:true=Tryz.prog.looks []:=by kernel_rfl
end Go.Proofs.YtmaaepdecdhmnaaGreatDoor
end
section
open Go
namespace Go.Proofs.YtmaaepdecdhmnaaGreatDoor
set_option maxRecDepth 100000
theorem qz5:([33,37].all fun u => !Tryz.prog.wantsStandIn u)=true:=by kernel_rfl
end Go.Proofs.YtmaaepdecdhmnaaGreatDoor
end
