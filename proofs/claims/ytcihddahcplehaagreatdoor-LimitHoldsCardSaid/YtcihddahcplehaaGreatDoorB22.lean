/- Part 22 of the proof: CbAo4. -/
import Derived.Test.YtcihddahcplehaaGreatDoorB9
import Derived.Test.YtcihddahcplehaaGreatDoorB19
import Derived.KernelRfl
import Derived.Test.YtcihddahcplehaaGreatDoorB8
import Derived.Test.YtcihddahcplehaaGreatDoorB7
namespace Go.Sim
set_option maxRecDepth 100000
theorem qAD:qaq [(537,qrJ)] qlB qqQ=true:=by kernel_rfl
theorem qLd:qaq [] qgN qgT=true:=by kernel_rfl
theorem qz2:qaq [] qiL qng=true:=by kernel_rfl
theorem qDG:qaq [(598,qi9),(603,qng)] qkb qrQ=true:=by kernel_rfl
theorem qGl:qaq [] qjO qp2=true:=by kernel_rfl
theorem qEe:qaq [(551,qou),(552,ql0)] qk7 qsl=true:=by kernel_rfl
theorem qF9:qaq [(597,qoP)] qj4 qsd=true:=by kernel_rfl
theorem qKO:qaq [(676,qsm)] qjB qpc=true:=by kernel_rfl
theorem qA1:qaq [(598,qi9),(677,qmZ),(678,qlC)] qlv qp7=true:=by kernel_rfl
theorem qF6:qaq [(950,qs4)] qgi qpF=true:=by kernel_rfl
theorem qG3:qaq [] qgM qsC=true:=by kernel_rfl
theorem qAx:qaq [(679,qpu),(1100,qrv)] qkQ qrp=true:=by kernel_rfl
theorem qJf:qaq ((920,sX 2 qro qoE)::[]) qj8 (sX 1 qro qoE)=true:=by kernel_rfl
theorem qAA:qaq [] qlc qqN=true:=by kernel_rfl
theorem qDu:qaq [] qkB qq4=true:=by kernel_rfl
theorem qDf:qaq [(969,qkq),(970,qpb)] qkT qqn=true:=by kernel_rfl
end Go.Sim

