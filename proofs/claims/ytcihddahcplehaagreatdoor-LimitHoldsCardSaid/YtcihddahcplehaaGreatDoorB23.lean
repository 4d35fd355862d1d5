/- Part 23 of the proof: CbAo5. -/
import Derived.Test.YtcihddahcplehaaGreatDoorB19
import Derived.KernelRfl
import Derived.Test.YtcihddahcplehaaGreatDoorB8
import Derived.Test.YtcihddahcplehaaGreatDoorB7
namespace Go.Sim
set_option maxRecDepth 100000
theorem qEp:qap [] qjn qrH=true:=by kernel_rfl
theorem qBo:qap [] qlo qli=true:=by kernel_rfl
theorem qLy:qap [(540,qli),(596,qpv)] qkb qre=true:=by kernel_rfl
theorem qHj:qap [(106,qon),(544,qgS)] qlC qpt=true:=by kernel_rfl
theorem qFD:qap [(544,qgS),(545,qpt),(546,qoQ)] qlq qrP=true:=by kernel_rfl
theorem qzQ:qap [] qgI qr4=true:=by kernel_rfl
theorem qHl:qap [(549,qqq),(550,qp4)] qjy qrJ=true:=by kernel_rfl
theorem qBC:qap [] qjK qr7=true:=by kernel_rfl
theorem qER:qap [] qjT qqA=true:=by kernel_rfl
theorem qAD:qap [(859,qp6),(860,qrs)] qje qp1=true:=by kernel_rfl
theorem qJO:qap [(598,qif),(677,qlT),(678,qmQ)] qlt qrF=true:=by kernel_rfl
theorem qGM:qap [] qig qnO=true:=by kernel_rfl
theorem qBe:qap [(540,qli),(599,qnH),(684,qqn),(1023,qss),(1101,qoT)] qlx qoC=true:=by kernel_rfl
theorem qKu:qap [(504,qqb),(506,qq5),(508,qrP),(510,qrJ),(511,qr1),(538,qnZ),(542,qoM),(543,qoZ),(1090,qqB),(1099,qpp)] qhg quh=true:=by kernel_rfl
theorem qKC:qap [] qlr qqg=true:=by kernel_rfl
theorem qAv:qap [] qkk qqc=true:=by kernel_rfl
theorem qJB:qap [] qjS qkN=true:=by kernel_rfl
theorem qHS:qap [(924,qpm),(955,qoj)] qkv qxH=true:=by kernel_rfl
end Go.Sim

