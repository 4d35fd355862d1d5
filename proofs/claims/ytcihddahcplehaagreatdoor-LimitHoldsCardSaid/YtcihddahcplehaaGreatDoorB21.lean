/- Part 21 of the proof: CbAo3. -/
import Derived.Test.YtcihddahcplehaaGreatDoorB19
import Derived.KernelRfl
import Derived.Test.YtcihddahcplehaaGreatDoorB8
import Derived.Test.YtcihddahcplehaaGreatDoorB7
namespace Go.Sim
set_option maxRecDepth 100000
theorem qEn:qap [] qjf qoW=true:=by kernel_rfl
theorem qEG:qap [] qls qrg=true:=by kernel_rfl
theorem qLb:qap [(539,qoW),(540,qkz),(541,qrV)] qkG qo3=true:=by kernel_rfl
theorem qJu:qap [] qlz qi7=true:=by kernel_rfl
theorem qFz:qap [(544,qhe),(607,qr3)] qjS qpn=true:=by kernel_rfl
theorem qDP:qap [] qkR qnO=true:=by kernel_rfl
theorem qFI:qap [] qku qq6=true:=by kernel_rfl
theorem qA5:qap [] qjL qqF=true:=by kernel_rfl
theorem qKS:qap [] qkM qmX=true:=by kernel_rfl
theorem qIU:qap ((950,sX 2 qrw qrq)::[]) qg9 (sX 1 qrw qrq)=true:=by kernel_rfl
theorem qHG:qap [(919,qoB)] qgY qpf=true:=by kernel_rfl
theorem qKI:qap [(1094,qqA),(1095,qpf),(1096,qqI)] qha qoU=true:=by kernel_rfl
theorem qzH:qap [(603,qm3),(683,qnI)] qix qog=true:=by kernel_rfl
theorem qBT:qap ((921,sX 2 qsu qpd)::[(951,qp6),(952,qqn)]) qj5 (sX 1 qsu qpd)=true:=by kernel_rfl
theorem qE1:qap [(512,qpU),(954,qpK)] qjE qyW=true:=by kernel_rfl
theorem qDJ:qap [(969,qkD),(985,qqw)] qlx qqc=true:=by kernel_rfl
theorem qLd:qap [] qjx qyA=true:=by kernel_rfl
end Go.Sim

