/- Part 11 of the proof: CbC25S, CbC29S. -/
import Derived.Test.YtahfohlafjiajaaGreatDoorEB7
section
open Go Go.Proofs Go.Proofs.YtahfohlafjiajaaGreatDoor
namespace Go.Sim
set_option maxRecDepth 100000
set_option maxHeartbeats 4000000
def F512:PF:=cF Tryz.f172
abbrev qh6:PC:=cL F512.body 0
def qom:PF:=cF Tryz.f82
def qhz:PF:=cF Tryz.f125
def F859:PF:=cF Tryz.f155
abbrev qmA:PC:=cL F859.body 0
def F860:PF:=cF Tryz.f156
abbrev qlg:PC:=cL F860.body 0
abbrev qiR:PC:=cL F860.body 1
def F920:PF:=cF Tryz.f174
abbrev qo2:PC:=cL F920.body 0
def F921:PF:=cF Tryz.f175
abbrev qmE:PC:=cL F921.body 0
def F922:PF:=cF Tryz.f176
abbrev qjW:PC:=cL F922.body 0
abbrev qlh:PC:=cL qjW 0
def qjK:PF:=cF Tryz.f153
def qk9:PF:=cF Tryz.f154
def F925:PF:=cF Tryz.f177
abbrev qmF:PC:=cL F925.body 0
def qgQ:PF:=cF Tryz.f199
def qh3:PF:=cF Tryz.f200
def F953:PF:=cF Tryz.f201
abbrev qs0:PC:=cL F953.body 0
def F954:PF:=cF Tryz.f173
abbrev qo6:PC:=cL F954.body 0
def qce:PF:=cF Tryz.f202
def qon:PF:=cF Tryz.f198
def qiM:PF:=cF Tryz.f222
def qbS:PF:=cF Tryz.f223
def qhB:PF:=cF Tryz.f240
end Go.Sim
end
section
open Go Go.Proofs Go.Proofs.YtahfohlafjiajaaGreatDoor
namespace Go.Sim
set_option maxRecDepth 100000
set_option maxHeartbeats 4000000
def F9:PF:=cF Tryz.f14
def F14:PF:=cF Tryz.f37
abbrev qoL:PC:=cL F14.body 0
end Go.Sim
end
