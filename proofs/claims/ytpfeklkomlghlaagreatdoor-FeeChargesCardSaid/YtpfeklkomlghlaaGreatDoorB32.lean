/- Part 32 of the proof. -/
import Derived.Test.YtpfeklkomlghlaaGreatDoorProg
import Derived.Test.YtpfeklkomlghlaaGreatDoorRows
import Derived.JoinedOf
set_option linter.all false
section
open Go
namespace Go.Proofs.YtpfeklkomlghlaaGreatDoor
set_option maxRecDepth 100000
def clo:List Nat:=[3,4,12,13,40,87,14,5,15,42,43,41,6,18,45,88,114,113,46,47,22,62,48,89,115,19,49,90,116,117,132,91,50,92,118,51,52,53,54,94,93,119,55,56,20,57,96,95,120,133,143,144,145,159,158,177,146,160,147,161,178,188,198,199,189,200,201,202,215,224,237,225,226,227,238,190,203,204,206,205,217,221,234,235,247,255,256,216,228,208,207,218,219,229,239,249,250,230,240,251,241,242,253,257,258,259,260,248,263,264,261,262,265,266,267,268,252,243,220,231,244,254,232,245,233,246,209,210,222,134,121,135,148,149,162,163,179,122,136,123,137,150,164,151,167,166,181,165,180,168,182,169,183,192,191,193,184,194,195,211,212,223,236,213,214,196,170,58,7,21,59,97,124,98,125,60,61,16,9,17,44,8,23,24,25,63,26,64,65,99,126,10,27,66,28,67,68,69,100,29,70,30,71,72,73,31,74,75,76,77,101,78,103,102,127,138,152,153,171,172,154,173,155,174,175,185,139,156,157,176,186,187,197,79,32,80,104,128,140,141,81,105,33,82,106,107,108,129,109,83,110,130,142,111,131,112,34,84,85,35,86,11,36,37,38,39]
def qE4:List Nat:=[0,0,0,2,2,2,2,5,6,7,8,9,10,3,4,1,1]
def qoG:Tryz.prog.closure 3=clo:=by kernel_rfl
end Go.Proofs.YtpfeklkomlghlaaGreatDoor
end
section
open Go
namespace Go.Proofs.YtpfeklkomlghlaaGreatDoor
set_option maxRecDepth 100000
def jf5:((Rows.feeChargesRow.stops==[]))=true:=by kernel_rfl
def jf9:((Rows.feeChargesRow.inPlace==Tryz.prog.inPlace 3))=true:=by unfold Program.inPlace;rw[qoG];kernel_rfl
def qHi:((Rows.feeChargesRow.maps==(Tryz.f3.params.toList++Rows.feeChargesSpec.plain.varTypes Tryz.prog).any (Tryz.prog.mapsRec ·)))=true:=by kernel_rfl
def qHm:((Rows.feeChargesRow.wideKeys==(Tryz.f3.params.toList++Rows.feeChargesSpec.plain.varTypes Tryz.prog++Tryz.f3.resultTypes.toList).any (Tryz.prog.wideKeysFrom ·)))=true:=by kernel_rfl
def qHq:((Rows.feeChargesRow.loopsOut==Tryz.f3.resultTypes.toList.any (Tryz.prog.loopsFrom ·)))=true:=by kernel_rfl
def qHu:(Tryz.prog.mayEnter)=true:=by kernel_rfl
def qHy:((Rows.feeChargesRow.pinned==Rows.feeChargesRow.pinnedBy))=true:=by kernel_rfl
