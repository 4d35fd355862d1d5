/- Part 20 of the proof: CbAo2. -/
import Derived.Test.YtcihddahcplehaaGreatDoorB19
import Derived.KernelRfl
import Derived.Test.YtcihddahcplehaaGreatDoorB8
import Derived.Test.YtcihddahcplehaaGreatDoorB7
namespace Go.Sim
set_option maxRecDepth 100000
theorem qFr:qap [(685,qo8)] qgv qr3=true:=by kernel_rfl
theorem qGi:qap [(544,qhe)] qjp qrp=true:=by kernel_rfl
theorem qKW:qap [(544,qhe),(552,qnO),(595,qrH)] qkf qpw=true:=by kernel_rfl
theorem qzp:qap [] qlu qlL=true:=by kernel_rfl
theorem qIT:qap [(769,qp1)] qjz qmv=true:=by kernel_rfl
theorem qEI:qap [(513,qpe),(544,qhe),(598,qi7),(599,qlL),(600,qoZ),(601,qsy),(602,qsg)] qjV qoz=true:=by kernel_rfl
theorem qDB:qap [] qg4 qqA=true:=by kernel_rfl
theorem qHc:qap [(683,qnI)] qjM qsz=true:=by kernel_rfl
theorem qBk:qap [] qlB qqn=true:=by kernel_rfl
theorem qKZ:qap [(968,qoy)] qjq qpK=true:=by kernel_rfl
theorem qHK:qap [(969,qkD)] qkx qqw=true:=by kernel_rfl
theorem qKC:qap [(1103,qsF)] qj9 qtP=true:=by kernel_rfl
end Go.Sim

