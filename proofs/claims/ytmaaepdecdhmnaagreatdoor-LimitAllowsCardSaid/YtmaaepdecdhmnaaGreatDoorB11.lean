/- Part 11 of the proof. -/
import Derived.Test.YtmaaepdecdhmnaaGreatDoorB7
namespace Go.Sim
set_option maxRecDepth 100000
set_option maxHeartbeats 8000000
section
open Go.Proofs Go.Proofs.YtmaaepdecdhmnaaGreatDoor
def F512:PF:=cF Tryz.f198
abbrev qik:PC:=cL F512.body 0
def qpb:PF:=cF Tryz.f123
def qhD:PF:=cF Tryz.f156
def F859:PF:=cF Tryz.f178
abbrev qnq:PC:=cL F859.body 0
def F860:PF:=cF Tryz.f179
abbrev ql1:PC:=cL F860.body 0
abbrev qjb:PC:=cL F860.body 1
def F920:PF:=cF Tryz.f200
abbrev qpV:PC:=cL F920.body 0
def F921:PF:=cF Tryz.f201
abbrev qnv:PC:=cL F921.body 0
def F922:PF:=cF Tryz.f202
abbrev qkk:PC:=cL F922.body 0
abbrev ql2:PC:=cL qkk 0
def qj8:PF:=cF Tryz.f176
def qlM:PF:=cF Tryz.f177
def F925:PF:=cF Tryz.f203
abbrev qnw:PC:=cL F925.body 0
def qgL:PF:=cF Tryz.f227
def qie:PF:=cF Tryz.f228
def F953:PF:=cF Tryz.f229
abbrev qtR:PC:=cL F953.body 0
def F954:PF:=cF Tryz.f199
abbrev qpZ:PC:=cL F954.body 0
def qbW:PF:=cF Tryz.f230
def qpc:PF:=cF Tryz.f226
def qi7:PF:=cF Tryz.f245
def qbs:PF:=cF Tryz.f246
def qhF:PF:=cF Tryz.f264
end
end Go.Sim
