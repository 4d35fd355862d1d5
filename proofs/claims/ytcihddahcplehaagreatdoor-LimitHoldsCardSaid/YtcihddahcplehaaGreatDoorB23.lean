/- Part 23 of the proof: CbAo5. -/
import Derived.Test.YtcihddahcplehaaGreatDoorB19
import Derived.KernelRfl
import Derived.Test.YtcihddahcplehaaGreatDoorB8
import Derived.Test.YtcihddahcplehaaGreatDoorB7
namespace Go.Sim
set_option maxRecDepth 100000
theorem qIi:qap [] qly qpg=true:=by kernel_rfl
theorem qIj:qap [] qk4 qkz=true:=by kernel_rfl
theorem qAn:qap [(540,qkz),(596,qrg)] qkq qrV=true:=by kernel_rfl
theorem qGn:qap [(106,qok),(544,qhe)] qjK qpS=true:=by kernel_rfl
theorem qGQ:qap [(544,qhe),(545,qpS),(546,qq1)] qkd qrS=true:=by kernel_rfl
theorem qF2:qap [] qgo qo8=true:=by kernel_rfl
theorem qJr:qap [(549,qpn),(550,qop)] qlA qsE=true:=by kernel_rfl
theorem qAh:qap [] qk6 qrH=true:=by kernel_rfl
theorem qAl:qap [] qkZ qpe=true:=by kernel_rfl
theorem qKP:qap [(859,qof),(860,qqs)] qjc qp1=true:=by kernel_rfl
theorem qDS:qap [(598,qi7),(677,qmv),(678,qmX)] qkl qsg=true:=by kernel_rfl
theorem qFm:qap [] qh3 qnI=true:=by kernel_rfl
theorem qHk:qap [(540,qkz),(599,qlL),(684,qsz),(1023,qog),(1101,qpp)] qjR qot=true:=by kernel_rfl
theorem qCo:qap [(504,qrR),(506,qo3),(508,qrS),(510,qsE),(511,qqi),(538,qpw),(542,qqB),(543,qoz),(1090,qoU),(1099,qpM)] qhl qtm=true:=by kernel_rfl
theorem qKE:qap [] qla qp6=true:=by kernel_rfl
theorem qKp:qap [] qjF qoy=true:=by kernel_rfl
theorem qBg:qap [] qkB qkD=true:=by kernel_rfl
theorem qHz:qap [(924,qqK),(955,qr8)] qky qxI=true:=by kernel_rfl
end Go.Sim

