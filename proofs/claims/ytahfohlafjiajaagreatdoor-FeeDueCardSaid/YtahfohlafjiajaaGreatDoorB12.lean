/- Part 12 of the proof: CbC13. -/
import Derived.Test.YtahfohlafjiajaaGreatDoorB7
open Go Go.Proofs Go.Proofs.YtahfohlafjiajaaGreatDoor
namespace Go.Sim
set_option maxRecDepth 100000
set_option maxHeartbeats 4000000
def qgI:PF:=cF Tryz.f81
def F1041:PF:=cF Tryz.f126
abbrev qk5:PC:=cL F1041.body 0
def F1042:PF:=cF Tryz.f127
abbrev qiE:PC:=cL F1042.body 0
def F1048:PF:=cF Tryz.f157
abbrev qop:PC:=cL F1048.body 0
def F1049:PF:=cF Tryz.f158
abbrev qmg:PC:=cL F1049.body 0
abbrev qmh:PC:=cL F1049.body 1
def qjk:PF:=cF Tryz.f178
def qkA:PF:=cF Tryz.f179
def qiu:PF:=cF Tryz.f180
def qkB:PF:=cF Tryz.f181
def qjl:PF:=cF Tryz.f182
def qfr:PF:=cF Tryz.f183
def qhq:PF:=cF Tryz.f184
def qfG:PF:=cF Tryz.f185
def qiv:PF:=cF Tryz.f203
def qgr:PF:=cF Tryz.f204
def qjm:PF:=cF Tryz.f205
def qkD:PF:=cF Tryz.f206
def qg2:PF:=cF Tryz.f207
def qkE:PF:=cF Tryz.f208
def qkF:PF:=cF Tryz.f224
def qiw:PF:=cF Tryz.f225
def qkG:PF:=cF Tryz.f226
def qix:PF:=cF Tryz.f227
def qkH:PF:=cF Tryz.f228
def qkI:PF:=cF Tryz.f229
def qiy:PF:=cF Tryz.f230
def qhR:PF:=cF Tryz.f231
def F1075:PF:=cF Tryz.f241
abbrev qoq:PC:=cL F1075.body 0
def qjn:PF:=cF Tryz.f242
def F1077:PF:=cF Tryz.f243
abbrev qk6:PC:=cL F1077.body 0
def qkJ:PF:=cF Tryz.f253
end Go.Sim

