/- Part 9 of the proof: CbC25, CbC25E. -/
import Derived.Test.YtahfohlafjiajaaGreatDoorB7
section
open Go Go.Proofs Go.Proofs.YtahfohlafjiajaaGreatDoor
namespace Go.Sim
set_option maxRecDepth 100000
set_option maxHeartbeats 4000000
def F603:PF:=cF Tryz.f73
abbrev qmm:PC:=cL F603.body 0
def F683:PF:=cF Tryz.f27
abbrev qoH:PC:=cL F683.body 0
def qhW:PF:=cF Tryz.f55
def F950:PF:=cF Tryz.f110
abbrev qoS:PC:=cL F950.body 0
def qit:PF:=cF Tryz.f30
def F1027:PF:=cF Tryz.f78
abbrev qoi:PC:=cL F1027.body 0
def F1034:PF:=cF Tryz.f121
abbrev qoj:PC:=cL F1034.body 0
def F1090:PF:=cF Tryz.f7
abbrev qor:PC:=cL F1090.body 0
abbrev qos:PC:=cL F1090.body 1
abbrev qot:PC:=cL F1090.body 2
def F1094:PF:=cF Tryz.f20
abbrev qou:PC:=cL F1094.body 0
def F1095:PF:=cF Tryz.f21
abbrev qov:PC:=cL F1095.body 0
abbrev qow:PC:=cL F1095.body 1
def F1096:PF:=cF Tryz.f22
abbrev qox:PC:=cL F1096.body 0
end Go.Sim
end
section
open Go Go.Proofs Go.Proofs.YtahfohlafjiajaaGreatDoor
namespace Go.Sim
set_option maxRecDepth 100000
set_option maxHeartbeats 4000000
def F66:PF:=cF Tryz.f165
def qjx:PF:=cF Tryz.f28
def qiB:PF:=cF Tryz.f29
def F1030:PF:=cF Tryz.f32
abbrev qmc:PC:=cL F1030.body 0
def qkw:PF:=cF Tryz.f74
def F1035:PF:=cF Tryz.f75
abbrev qmd:PC:=cL F1035.body 0
abbrev qok:PC:=cL qmd 0
def F1036:PF:=cF Tryz.f76
abbrev qme:PC:=cL F1036.body 0
def F1037:PF:=cF Tryz.f77
abbrev qmf:PC:=cL F1037.body 0
abbrev qk4:PC:=cL qmf 0
def qfT:PF:=cF Tryz.f79
def F1039:PF:=cF Tryz.f80
abbrev qol:PC:=cL F1039.body 0
def F1045:PF:=cF Tryz.f120
abbrev qom:PC:=cL F1045.body 0
abbrev qon:PC:=cL F1045.body 1
def qkx:PF:=cF Tryz.f122
def F1047:PF:=cF Tryz.f123
abbrev qoo:PC:=cL F1047.body 0
def qky:PF:=cF Tryz.f151
def qkz:PF:=cF Tryz.f152
def qkC:PF:=cF Tryz.f171
end Go.Sim
end
