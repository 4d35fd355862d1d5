/- Part 22 of the proof: CbAo4. -/
import Derived.Test.YtcihddahcplehaaGreatDoorB19
import Derived.KernelRfl
import Derived.Test.YtcihddahcplehaaGreatDoorB8
import Derived.Test.YtcihddahcplehaaGreatDoorB7
namespace Go.Sim
set_option maxRecDepth 100000
theorem qHo:qap [(537,qpg)] qjB qrR=true:=by kernel_rfl
theorem qBP:qap [] qgM qhe=true:=by kernel_rfl
theorem qBp:qap [] qiY qm3=true:=by kernel_rfl
theorem qJf:qap [(598,qi7),(603,qm3)] qjs qq1=true:=by kernel_rfl
theorem qCe:qap [] qle qop=true:=by kernel_rfl
theorem qII:qap [(551,qrp),(552,qnO)] qlo qqi=true:=by kernel_rfl
theorem qIQ:qap [(597,qq6)] qjD qqB=true:=by kernel_rfl
theorem qHf:qap [(676,qqF)] qkw qoZ=true:=by kernel_rfl
theorem qGw:qap [(598,qi7),(677,qmv),(678,qmX)] qkI qsy=true:=by kernel_rfl
theorem qCL:qap [(950,qx3)] qf4 qoB=true:=by kernel_rfl
theorem qFJ:qap [] qgU qqI=true:=by kernel_rfl
theorem qFg:qap [(679,qqH),(1100,qot)] qkT qpM=true:=by kernel_rfl
theorem qAH:qap ((920,sX 2 qqC qql)::[]) qjP (sX 1 qqC qql)=true:=by kernel_rfl
theorem qCy:qap [] qlp qpU=true:=by kernel_rfl
theorem qHt:qap [] qkn qqK=true:=by kernel_rfl
theorem qGv:qap [(969,qkD),(970,qqc)] qju qr8=true:=by kernel_rfl
end Go.Sim

