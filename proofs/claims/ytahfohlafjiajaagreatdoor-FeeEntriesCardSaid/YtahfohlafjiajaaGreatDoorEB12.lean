/- Part 12 of the proof: CbC13. -/
import Derived.Test.YtahfohlafjiajaaGreatDoorEB7
open Go Go.Proofs Go.Proofs.YtahfohlafjiajaaGreatDoor
namespace Go.Sim
set_option maxRecDepth 100000
set_option maxHeartbeats 4000000
def qgN:PF:=cF Tryz.f81
def F1041:PF:=cF Tryz.f126
abbrev qld:PC:=cL F1041.body 0
def F1042:PF:=cF Tryz.f127
abbrev qiO:PC:=cL F1042.body 0
def F1048:PF:=cF Tryz.f157
abbrev qoA:PC:=cL F1048.body 0
def F1049:PF:=cF Tryz.f158
abbrev qmr:PC:=cL F1049.body 0
abbrev qms:PC:=cL F1049.body 1
def qjw:PF:=cF Tryz.f178
def qkI:PF:=cF Tryz.f179
def qiD:PF:=cF Tryz.f180
def qkJ:PF:=cF Tryz.f181
def qjx:PF:=cF Tryz.f182
def qff:PF:=cF Tryz.f183
def qhx:PF:=cF Tryz.f184
def qfK:PF:=cF Tryz.f185
def qiE:PF:=cF Tryz.f203
def qgv:PF:=cF Tryz.f204
def qjy:PF:=cF Tryz.f205
def qkL:PF:=cF Tryz.f206
def qg6:PF:=cF Tryz.f207
def qkM:PF:=cF Tryz.f208
def qkN:PF:=cF Tryz.f224
def qiF:PF:=cF Tryz.f225
def qkO:PF:=cF Tryz.f226
def qiG:PF:=cF Tryz.f227
def qkP:PF:=cF Tryz.f228
def qkQ:PF:=cF Tryz.f229
def qiH:PF:=cF Tryz.f230
def qhX:PF:=cF Tryz.f231
def F1075:PF:=cF Tryz.f241
abbrev qoB:PC:=cL F1075.body 0
def qjz:PF:=cF Tryz.f242
def F1077:PF:=cF Tryz.f243
abbrev qle:PC:=cL F1077.body 0
def qkR:PF:=cF Tryz.f253
end Go.Sim

