/- Part 23 of the proof: CbAo5. -/
import Derived.Test.YtcihddahcplehaaGreatDoorB9
import Derived.Test.YtcihddahcplehaaGreatDoorB19
import Derived.KernelRfl
import Derived.Test.YtcihddahcplehaaGreatDoorB8
import Derived.Test.YtcihddahcplehaaGreatDoorB7
namespace Go.Sim
set_option maxRecDepth 100000
theorem qGb:qaq [] qjk qrJ=true:=by kernel_rfl
theorem qKL:qaq [] qkC qkV=true:=by kernel_rfl
theorem qJU:qaq [(540,qkV),(596,qp8)] qk1 qrw=true:=by kernel_rfl
theorem qB7:qaq [(106,qpV),(544,qgT)] qlk qqb=true:=by kernel_rfl
theorem qKq:qaq [(544,qgT),(545,qqb),(546,qrQ)] qkn qrS=true:=by kernel_rfl
theorem qHO:qaq [] qgr qpm=true:=by kernel_rfl
theorem qBC:qaq [(549,qri),(550,qp2)] qjt qsu=true:=by kernel_rfl
theorem qzu:qaq [] qj5 qr5=true:=by kernel_rfl
theorem qEt:qaq [] qkY qqC=true:=by kernel_rfl
theorem qJR:qaq [(859,qrc),(860,qo8)] qkk qoH=true:=by kernel_rfl
theorem qAO:qaq [(598,qi9),(677,qmZ),(678,qlC)] qjm qpy=true:=by kernel_rfl
theorem qIT:qaq [] qiw qnd=true:=by kernel_rfl
theorem qC9:qaq [(540,qkV),(599,qmk),(684,qoN),(1023,qsc),(1101,qpa)] qk2 qrv=true:=by kernel_rfl
theorem qEx:qaq [(504,qqQ),(506,qnZ),(508,qrS),(510,qsu),(511,qsl),(538,qr0),(542,qsd),(543,qr6),(1090,qrk),(1099,qrp)] qhZ qv8=true:=by kernel_rfl
theorem qK8:qaq [] qko qok=true:=by kernel_rfl
theorem qGS:qaq [] qjn qoI=true:=by kernel_rfl
theorem qKY:qaq [] qj3 qkq=true:=by kernel_rfl
theorem qHw:qaq [(924,qq4),(955,qqn)] qjZ qxQ=true:=by kernel_rfl
end Go.Sim

