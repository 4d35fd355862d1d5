/- Part 11 of the proof: CbC25S, CbC29S. -/
import Derived.Test.YtahfohlafjiajaaGreatDoorB7
section
open Go Go.Proofs Go.Proofs.YtahfohlafjiajaaGreatDoor
namespace Go.Sim
set_option maxRecDepth 100000
set_option maxHeartbeats 4000000
def F512:PF:=cF Tryz.f172
abbrev qh0:PC:=cL F512.body 0
def qob:PF:=cF Tryz.f82
def qhs:PF:=cF Tryz.f125
def F859:PF:=cF Tryz.f155
abbrev qmn:PC:=cL F859.body 0
def F860:PF:=cF Tryz.f156
abbrev qk8:PC:=cL F860.body 0
abbrev qiG:PC:=cL F860.body 1
def F920:PF:=cF Tryz.f174
abbrev qoP:PC:=cL F920.body 0
def F921:PF:=cF Tryz.f175
abbrev qmr:PC:=cL F921.body 0
def F922:PF:=cF Tryz.f176
abbrev qjL:PC:=cL F922.body 0
abbrev qk9:PC:=cL qjL 0
def qjz:PF:=cF Tryz.f153
def qk1:PF:=cF Tryz.f154
def F925:PF:=cF Tryz.f177
abbrev qms:PC:=cL F925.body 0
def qgL:PF:=cF Tryz.f199
def qhX:PF:=cF Tryz.f200
def F953:PF:=cF Tryz.f201
abbrev qsM:PC:=cL F953.body 0
def F954:PF:=cF Tryz.f173
abbrev qoT:PC:=cL F954.body 0
def qcd:PF:=cF Tryz.f202
def qoc:PF:=cF Tryz.f198
def qiC:PF:=cF Tryz.f222
def qbR:PF:=cF Tryz.f223
def qhu:PF:=cF Tryz.f240
end Go.Sim
end
section
open Go Go.Proofs Go.Proofs.YtahfohlafjiajaaGreatDoor
namespace Go.Sim
set_option maxRecDepth 100000
set_option maxHeartbeats 4000000
end Go.Sim
end
