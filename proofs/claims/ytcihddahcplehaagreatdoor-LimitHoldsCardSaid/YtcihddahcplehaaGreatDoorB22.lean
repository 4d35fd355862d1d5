/- Part 22 of the proof: CbAo4. -/
import Derived.Test.YtcihddahcplehaaGreatDoorB19
import Derived.KernelRfl
import Derived.Test.YtcihddahcplehaaGreatDoorB8
import Derived.Test.YtcihddahcplehaaGreatDoorB7
namespace Go.Sim
set_option maxRecDepth 100000
theorem qFN:qap [(537,qrH)] qkY qqb=true:=by kernel_rfl
theorem qJo:qap [] qgX qgS=true:=by kernel_rfl
theorem qDL:qap [] qiG qlM=true:=by kernel_rfl
theorem qBb:qap [(598,qif),(603,qlM)] qjg qoQ=true:=by kernel_rfl
theorem qE8:qap [] qji qp4=true:=by kernel_rfl
theorem qID:qap [(551,qq4),(552,qmp)] qjU qr1=true:=by kernel_rfl
theorem qEr:qap [(597,qsD)] qjw qoM=true:=by kernel_rfl
theorem qEb:qap [(676,qqT)] qj5 qn4=true:=by kernel_rfl
theorem qGH:qap [(598,qif),(677,qlT),(678,qmQ)] qkD qsG=true:=by kernel_rfl
theorem qEs:qap [(950,qxy)] qfY qqH=true:=by kernel_rfl
theorem qzD:qap [] qgN qpS=true:=by kernel_rfl
theorem qBg:qap [(679,qoe),(1100,qoC)] qlc qpp=true:=by kernel_rfl
theorem qKX:qap ((920,sX 2 qqt qrT)::[]) qjF (sX 1 qqt qrT)=true:=by kernel_rfl
theorem qBS:qap [] qlk qsh=true:=by kernel_rfl
theorem qIq:qap [] qka qpm=true:=by kernel_rfl
theorem qIt:qap [(969,qkN),(970,qpr)] qkE qoj=true:=by kernel_rfl
end Go.Sim

