/- Part 9 of the proof: CbC25, CbC25E. -/
import Derived.Test.YtahfohlafjiajaaGreatDoorEB7
section
open Go Go.Proofs Go.Proofs.YtahfohlafjiajaaGreatDoor
namespace Go.Sim
set_option maxRecDepth 100000
set_option maxHeartbeats 4000000
def F603:PF:=cF Tryz.f73
abbrev qmz:PC:=cL F603.body 0
def F683:PF:=cF Tryz.f27
abbrev qoU:PC:=cL F683.body 0
def qh2:PF:=cF Tryz.f55
def F950:PF:=cF Tryz.f110
abbrev qo5:PC:=cL F950.body 0
def qiC:PF:=cF Tryz.f30
def F1027:PF:=cF Tryz.f78
abbrev qot:PC:=cL F1027.body 0
def F1034:PF:=cF Tryz.f121
abbrev qou:PC:=cL F1034.body 0
def F1090:PF:=cF Tryz.f7
abbrev qoC:PC:=cL F1090.body 0
abbrev qoD:PC:=cL F1090.body 1
abbrev qoE:PC:=cL F1090.body 2
def F1094:PF:=cF Tryz.f20
abbrev qoF:PC:=cL F1094.body 0
def F1095:PF:=cF Tryz.f21
abbrev qoG:PC:=cL F1095.body 0
abbrev qoH:PC:=cL F1095.body 1
def F1096:PF:=cF Tryz.f22
abbrev qoI:PC:=cL F1096.body 0
end Go.Sim
end
section
open Go Go.Proofs Go.Proofs.YtahfohlafjiajaaGreatDoor
namespace Go.Sim
set_option maxRecDepth 100000
set_option maxHeartbeats 4000000
def F66:PF:=cF Tryz.f165
def qjI:PF:=cF Tryz.f28
def qiL:PF:=cF Tryz.f29
def F1030:PF:=cF Tryz.f32
abbrev qmn:PC:=cL F1030.body 0
def qkE:PF:=cF Tryz.f74
def F1035:PF:=cF Tryz.f75
abbrev qmo:PC:=cL F1035.body 0
abbrev qov:PC:=cL qmo 0
def F1036:PF:=cF Tryz.f76
abbrev qmp:PC:=cL F1036.body 0
def F1037:PF:=cF Tryz.f77
abbrev qmq:PC:=cL F1037.body 0
abbrev qlc:PC:=cL qmq 0
def qfW:PF:=cF Tryz.f79
def F1039:PF:=cF Tryz.f80
abbrev qow:PC:=cL F1039.body 0
def F1045:PF:=cF Tryz.f120
abbrev qox:PC:=cL F1045.body 0
abbrev qoy:PC:=cL F1045.body 1
def qkF:PF:=cF Tryz.f122
def F1047:PF:=cF Tryz.f123
abbrev qoz:PC:=cL F1047.body 0
def qkG:PF:=cF Tryz.f151
def qkH:PF:=cF Tryz.f152
def qkK:PF:=cF Tryz.f171
end Go.Sim
end
