/- Part 21 of the proof: CbAo3. -/
import Derived.Test.YtcihddahcplehaaGreatDoorB19
import Derived.KernelRfl
import Derived.Test.YtcihddahcplehaaGreatDoorB8
import Derived.Test.YtcihddahcplehaaGreatDoorB7
namespace Go.Sim
set_option maxRecDepth 100000
theorem qFM:qap [] qkB qqQ=true:=by kernel_rfl
theorem qGx:qap [] qjf qpv=true:=by kernel_rfl
theorem qKs:qap [(539,qqQ),(540,qli),(541,qre)] qjX qq5=true:=by kernel_rfl
theorem qKS:qap [] qjG qif=true:=by kernel_rfl
theorem qJA:qap [(544,qgS),(607,qqK)] qls qqq=true:=by kernel_rfl
theorem qHs:qap [] qjl qmp=true:=by kernel_rfl
theorem qLa:qap [] qjL qsD=true:=by kernel_rfl
theorem qGh:qap [] qkh qqT=true:=by kernel_rfl
theorem qK1:qap [] qku qmQ=true:=by kernel_rfl
theorem qDC:qap ((950,sX 2 qsp qrb)::[]) qg0 (sX 1 qsp qrb)=true:=by kernel_rfl
theorem qCf:qap [(919,qqH)] qgP qrt=true:=by kernel_rfl
theorem qH0:qap [(1094,qpY),(1095,qrt),(1096,qpS)] qgV qqB=true:=by kernel_rfl
theorem qzV:qap [(603,qlM),(683,qnO)] qiy qss=true:=by kernel_rfl
theorem qLb:qap ((921,sX 2 qpw qsr)::[(951,qqg),(952,qpl)]) qkg (sX 1 qpw qsr)=true:=by kernel_rfl
theorem qHq:qap [(512,qsh),(954,qp9)] qjc qtQ=true:=by kernel_rfl
theorem qLe:qap [(969,qkN),(985,qsn)] qjv qpr=true:=by kernel_rfl
theorem qCB:qap [] qks qwz=true:=by kernel_rfl
end Go.Sim

