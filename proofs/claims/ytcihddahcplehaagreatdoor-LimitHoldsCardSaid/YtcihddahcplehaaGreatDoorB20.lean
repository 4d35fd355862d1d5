/- Part 20 of the proof: CbAo2. -/
import Derived.Test.YtcihddahcplehaaGreatDoorB19
import Derived.KernelRfl
import Derived.Test.YtcihddahcplehaaGreatDoorB8
import Derived.Test.YtcihddahcplehaaGreatDoorB7
namespace Go.Sim
set_option maxRecDepth 100000
theorem qEm:qap [(685,qr4)] qgB qqK=true:=by kernel_rfl
theorem qIm:qap [(544,qgS)] qkR qq4=true:=by kernel_rfl
theorem qIE:qap [(544,qgS),(552,qmp),(595,qr7)] qjJ qnZ=true:=by kernel_rfl
theorem qHn:qap [] qkQ qnH=true:=by kernel_rfl
theorem qHw:qap [(769,qp1)] qjH qlT=true:=by kernel_rfl
theorem qBu:qap [(513,qqA),(544,qgS),(598,qif),(599,qnH),(600,qn4),(601,qsG),(602,qrF)] qk6 qoZ=true:=by kernel_rfl
theorem qCi:qap [] qg8 qpY=true:=by kernel_rfl
theorem qGd:qap [(683,qnO)] qkr qqn=true:=by kernel_rfl
theorem qCo:qap [] qla qpl=true:=by kernel_rfl
theorem qKI:qap [(968,qqc)] qjh qp9=true:=by kernel_rfl
theorem qAV:qap [(969,qkN)] qk8 qsn=true:=by kernel_rfl
theorem qLr:qap [(1103,qr2)] qld qvh=true:=by kernel_rfl
end Go.Sim

