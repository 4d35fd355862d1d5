/- Part 21 of the proof: CbAo3. -/
import Derived.Test.YtcihddahcplehaaGreatDoorB9
import Derived.Test.YtcihddahcplehaaGreatDoorB19
import Derived.KernelRfl
import Derived.Test.YtcihddahcplehaaGreatDoorB8
import Derived.Test.YtcihddahcplehaaGreatDoorB7
namespace Go.Sim
set_option maxRecDepth 100000
theorem qJL:qaq [] qll qrd=true:=by kernel_rfl
theorem qKh:qaq [] qlz qp8=true:=by kernel_rfl
theorem qJ4:qaq [(539,qrd),(540,qkV),(541,qrw)] qlu qnZ=true:=by kernel_rfl
theorem qHV:qaq [] qkO qi9=true:=by kernel_rfl
theorem qJz:qaq [(544,qgT),(607,qn4)] qkp qri=true:=by kernel_rfl
theorem qBk:qaq [] qkF ql0=true:=by kernel_rfl
theorem qD0:qaq [] qlg qoP=true:=by kernel_rfl
theorem qzp:qaq [] qjK qsm=true:=by kernel_rfl
theorem qz8:qaq [] qjf qlC=true:=by kernel_rfl
theorem qEH:qaq ((950,sX 2 qrN qpI)::[]) qg6 (sX 1 qrN qpI)=true:=by kernel_rfl
theorem qB5:qaq [(919,qpF)] qgP qpf=true:=by kernel_rfl
theorem qAP:qaq [(1094,qpM),(1095,qpf),(1096,qsC)] qgU qrk=true:=by kernel_rfl
theorem qKv:qaq [(603,qng),(683,qnd)] qig qsc=true:=by kernel_rfl
theorem qzG:qaq ((921,sX 2 qqc qqP)::[(951,qok),(952,qpH)]) qk6 (sX 1 qqc qqP)=true:=by kernel_rfl
theorem qFZ:qaq [(512,qqN),(954,qqu)] qj2 qza=true:=by kernel_rfl
theorem qEF:qaq [(969,qkq),(985,qqd)] qkD qpb=true:=by kernel_rfl
theorem qIi:qaq [] qkz qwx=true:=by kernel_rfl
end Go.Sim

