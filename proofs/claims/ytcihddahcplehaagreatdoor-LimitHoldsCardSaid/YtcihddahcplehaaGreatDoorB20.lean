/- Part 20 of the proof: CbAo2. -/
import Derived.Test.YtcihddahcplehaaGreatDoorB9
import Derived.Test.YtcihddahcplehaaGreatDoorB19
import Derived.KernelRfl
import Derived.Test.YtcihddahcplehaaGreatDoorB8
import Derived.Test.YtcihddahcplehaaGreatDoorB7
namespace Go.Sim
set_option maxRecDepth 100000
theorem qJu:qaq [(685,qpm)] qgD qn4=true:=by kernel_rfl
theorem qJ1:qaq [(544,qgT)] qlp qou=true:=by kernel_rfl
theorem qEA:qaq [(544,qgT),(552,ql0),(595,qr5)] qjL qr0=true:=by kernel_rfl
theorem qFT:qaq [] qkP qmk=true:=by kernel_rfl
theorem qGZ:qaq [(769,qoH)] qjQ qmZ=true:=by kernel_rfl
theorem qzw:qaq [(513,qqC),(544,qgT),(598,qi9),(599,qmk),(600,qpc),(601,qp7),(602,qpy)] qkd qr6=true:=by kernel_rfl
theorem qKx:qaq [] qgR qpM=true:=by kernel_rfl
theorem qHb:qaq [(683,qnd)] qjg qoN=true:=by kernel_rfl
theorem qEO:qaq [] qjj qpH=true:=by kernel_rfl
theorem qzY:qaq [(968,qoI)] qjJ qqu=true:=by kernel_rfl
theorem qAr:qaq [(969,qkq)] qj0 qqd=true:=by kernel_rfl
theorem qzS:qaq [(1103,qqA)] qki qvO=true:=by kernel_rfl
end Go.Sim

