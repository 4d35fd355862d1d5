/- Part 32 of the proof. -/
import Derived.Test.YtmaaepdecdhmnaaGreatDoorRows
import Derived.JoinedOf
set_option linter.all false
section
open Go
namespace Go.Proofs.YtmaaepdecdhmnaaGreatDoor
set_option maxRecDepth 100000
def clo:List Nat:=[4,9,5,18,19,54,105,20,30,73,31,74,75,76,126,32,77,33,78,79,80,34,81,82,83,84,127,85,123,128,156,178,200,201,227,228,202,229,176,198,199,226,179,177,203,230,245,246,264,86,35,87,129,162,184,185,88,120,36,89,130,131,132,163,133,90,134,164,186,71,67,68,37,91,92,38,93,10,39,40,41,42,43,94,95,96,135,97,136,137,165,187,7,11,44,98,99,139,166,138,100,140,141,167,188,45,101,46,26,64,111,110,16,17,48,52,53,49,51,104,27,23,12,47,102,15,50,103,13,14,65,22,55,56,106,142,143,168,107,57,58,59,60,109,108,61,62,113,112,144,169,189,190,191,214,213,237,192,215,193,216,238,255,268,269,256,270,271,272,286,295,308,296,297,298,309,257,273,274,276,275,288,292,305,306,318,326,327,287,299,278,277,289,290,300,310,320,321,301,311,322,312,313,324,328,329,330,331,319,334,335,332,333,336,337,338,339,323,314,291,302,315,325,303,316,304,317,279,280,293,170,145,171,194,195,217,218,239,146,172,147,173,196,219,197,222,221,241,220,240,223,242,224,243,259,258,260,244,261,262,281,282,294,307,283,284,263,225,114,148,25,63,6,21,24]
def qFB:List Nat:=[1,1,1,2,2,2,2,5,6,7,8,9,10,3,4,0,0]
def qo0:Tryz.prog.closure 4=clo:=by kernel_rfl
end Go.Proofs.YtmaaepdecdhmnaaGreatDoor
end
section
open Go
namespace Go.Proofs.YtmaaepdecdhmnaaGreatDoor
set_option maxRecDepth 100000
def jf5:((Rows.limitGuardsRow.stops==[]))=true:=by kernel_rfl
def jf9:((Rows.limitGuardsRow.inPlace==Tryz.prog.inPlace 4))=true:=by unfold Program.inPlace;rw[qo0];kernel_rfl
def qHI:((Rows.limitGuardsRow.maps==(Tryz.f4.params.toList++Rows.limitGuardsSpec.plain.varTypes Tryz.prog).any (Tryz.prog.mapsRec ·)))=true:=by kernel_rfl
def qHM:((Rows.limitGuardsRow.wideKeys==(Tryz.f4.params.toList++Rows.limitGuardsSpec.plain.varTypes Tryz.prog++Tryz.f4.resultTypes.toList).any (Tryz.prog.wideKeysFrom ·)))=true:=by kernel_rfl
def qHQ:((Rows.limitGuardsRow.loopsOut==Tryz.f4.resultTypes.toList.any (Tryz.prog.loopsFrom ·)))=true:=by kernel_rfl
def qHU:(Tryz.prog.mayEnter)=true:=by kernel_rfl
def qHY:((Rows.limitGuardsRow.pinned==Rows.limitGuardsRow.pinnedBy))=true:=by kernel_rfl
