/- Part 8 of the proof. -/
import Derived.Test.YtmaaepdecdhmnaaGreatDoorB6
import Derived.Test.YtmaaepdecdhmnaaGreatDoorB7
namespace Go.Sim
set_option maxRecDepth 100000
set_option maxHeartbeats 8000000
section
open Go.Proofs Go.Proofs.YtmaaepdecdhmnaaGreatDoor
def F12:PF:=cF Tryz.f26
def F16:PF:=cF Tryz.f64
def F18:PF:=qig (K1 7)
def F19:PF:=cF Tryz.f111
def F22:PF:=cF Tryz.f55
def F24:PF:=cF Tryz.f47
def F30:PF:=cF Tryz.f102
abbrev qnk:PC:=cL F30.body 0
def F39:PF:=cF Tryz.f16
def F50:PF:=cF Tryz.f50
def F59:PF:=cF Tryz.f103
abbrev qno:PC:=cL F59.body 0
abbrev qpI:PC:=cL qno 0
def F65:PF:=cF Tryz.f106
abbrev qpJ:PC:=cL F65.body 0
abbrev qpK:PC:=cL F65.body 1
def F71:PF:=cF Tryz.f142
def F72:PF:=cF Tryz.f143
def qll:PF:=cF Tryz.f11
def F179:PF:=cF Tryz.f44
abbrev qke:PC:=cL F179.body 0
def F180:PF:=cF Tryz.f45
abbrev qpC:PC:=cL F180.body 0
def qlm:PF:=cF Tryz.f46
def F262:PF:=cF Tryz.f98
abbrev qnj:PC:=cL F262.body 0
def qlo:PF:=cF Tryz.f99
def qi2:PF:=qig (K1 3)
def qlp:PF:=cF Tryz.f96
def F341:PF:=cF Tryz.f138
abbrev qnl:PC:=cL F341.body 0
def qlq:PF:=cF Tryz.f139
def qlr:PF:=cF Tryz.f135
def qls:PF:=cF Tryz.f166
def qhB:PF:=cF Tryz.f145
def qf9:PF:=cF Tryz.f169
def F400:PF:=cF Tryz.f171
abbrev qkf:PC:=cL F400.body 0
def F405:PF:=cF Tryz.f189
abbrev qpD:PC:=cL F405.body 0
def F406:PF:=cF Tryz.f190
abbrev qpE:PC:=cL F406.body 0
def qjX:PF:=cF Tryz.f191
def qh8:PF:=cF Tryz.f192
def qjY:PF:=cF Tryz.f193
def qlt:PF:=cF Tryz.f213
def qfW:PF:=cF Tryz.f215
def qgI:PF:=cF Tryz.f216
def qjZ:PF:=cF Tryz.f170
def qnc:PF:=qig (K1 4)
def F420:PF:=cF Tryz.f238
abbrev qkg:PC:=cL F420.body 0
def F422:PF:=cF Tryz.f255
abbrev qkh:PC:=cL F422.body 0
def F424:PF:=cF Tryz.f257
abbrev qpF:PC:=cL F424.body 0
def F425:PF:=cF Tryz.f268
abbrev qnn:PC:=cL F425.body 0
def qj1:PF:=cF Tryz.f273
def qh9:PF:=cF Tryz.f274
def qlv:PF:=cF Tryz.f275
def qlw:PF:=cF Tryz.f287
def F446:PF:=cF Tryz.f299
abbrev qpH:PC:=cL F446.body 0
def qlA:PF:=cF Tryz.f23
def F674:PF:=cF Tryz.f7
abbrev qil:PC:=cL F674.body 0
def qlB:PF:=cF Tryz.f108
def qpM:PC :=
 .reg [
 mM 7 12] [12]
def qpN:PC :=
 .block 1 (
 .reg [
 mL 13 5,
 mM 14 7,
 O 15 (.bin .sub (.t 13) (.t 14)),
 E (.store K0 (.t 5) (.t 15))] [15,7,14,5,13])
def qlC:PF:=⟨2,[.t 4],
 sq (.reg [
 mI 4 0] [4]) (
 sq (.reg [
 O 5 (.alloc K0 (I 0)),
 E (.store K0 (.t 5) (.c (I 0)))] []) (
 sq (sq (.reg [
 mM 8 0,
 mM 9 1,
 O 10 (.call 2 50 [.t 8,.t 9])] [1,9,0,8]) (
 .block 0 (
 .rng (.t 10) 100012 [11,12] [5] qpM qpN))) (
 sq (.reg [
 mL 16 5,
 mM 4 16] [5,16]) (
 .ret))))⟩
def F716:PF:=cF Tryz.f13
abbrev qpO:PC:=cL F716.body 0
def qi6:PF:=cF Tryz.f12
def F720:PF:=cF Tryz.f14
abbrev qnp:PC:=cL F720.body 0
def qnd:PF:=qig (K1 7)
def qlD:PF:=cF Tryz.f17
def qib:PF:=cF Tryz.f27
def F801:PF:=cF Tryz.f22
abbrev qpP:PC:=cL F801.body 0
abbrev qpQ:PC:=cL F801.body 1
def F803:PF:=cF Tryz.f48
abbrev ql0:PC:=cL F803.body 0
def qlE:PF:=cF Tryz.f49
def qlF:PF:=cF Tryz.f51
def qlG:PF:=cF Tryz.f52
def qhE:PF:=cF Tryz.f53
def F858:PF:=cF Tryz.f65
abbrev qim:PC:=cL F858.body 0
def qlH:PF:=cF Tryz.f56
def qnr:PC :=
 sq (.reg [
 O 10 (.alloc (K1 10) (.a [I 0,I 0,I 0,I 0,I 0,I 0,.s [],.s [],(.l (K1 3) [] true),(.i .u64 0)])),
 E (.store (K1 10) (.t 10) (.t 40))] [40]) (
 .reg [
 mM 11 41] [41])
def qns:PC :=
 .block 1 (
 sq (.reg [
 mF 42 2 10,
 mL 43 42,
 mL 44 7,
 O 45 (.bin .leq (.t 43) (.t 44))] [7,44,43,42]) (
 .cond (.t 45) (.reg [
 mL 46 9,
 mL 47 6,
 mF 48 2 10,
 mL 49 48,
 O 50 (.minmax true [.t 47,.t 49]),
 mL 51 6,
 O 52 (.bin .sub (.t 50) (.t 51)),
 O 53 (.iaddr K0 (.t 46) (.t 52)),
 mL 54 53,
 mM 55 11,
 O 56 (.bin .sub (.t 54) (.t 55)),
 O 57 (.iaddr K0 (.t 46) (.t 52)),
 E (.store K0 (.t 57) (.t 56))] [57,56,11,55,54,53,52,51,50,49,10,48,6,47,9,46])
 (.skip)))
def qnt:PC :=
 sq (sq (.reg [
 mM 58 12,
 mL 59 9,
 O 60 (.len false (.t 59)),
 O 61 (.bin .lss (.t 58) (.t 60))] [60,59,58]) (
 .cond (.t 61) (.skip)
 (.exit 2))) (
 sq (.block 3 (
 .regD [
 mL 64 9,
 mM 65 12,
 O 66 (.iaddr K0 (.t 64) (.t 65)),
 mL 67 66,
 mL 68 9,
 mM 69 12,
 O 70 (.bin .sub (.t 69) (.c (I 1))),
 O 71 (.iaddr K0 (.t 68) (.t 70)),
 mL 72 71,
 O 73 (.bin .add (.t 67) (.t 72)),
 O 74 (.iaddr K0 (.t 64) (.t 65)),
 E (.store K0 (.t 74) (.t 73))] [0,0,3,7,0,0,32,112,240,511,1023,2047] [74,73,72,71,70,69,68,67,66,65,64])) (
 .reg [
 mM 62 12,
 O 63 (.bin .add (.t 62) (.c (I 1))),
 mM 12 63] [63,62]))
def qj7:PF:=⟨4,[.t 8],
 sq (.reg [
 O 6 (.box K0 (.t 2)),
 O 7 (.box K0 (.t 3)),
 O 8 (.mov (.c (.l K0 [] true)))] [8,3,2]) (
 sq (sq (.reg [
 mL 13 6,
 O 14 (.call 0 22 [.t 13]),
 O 15 (.un .not (.t 14)),
 mM 16 15,
 OG 17 16 false (.load K0 (.t 7)),
 OG 18 16 false (.call 0 22 [.t 17]),
 OG 19 16 false (.un .not (.t 18)),
 O 20 (.pick (.t 16) (.c (.b true)) (.t 19)),
 mM 21 20,
 OG 22 21 false (.load K0 (.t 6)),
 OG 23 21 false (.load K0 (.t 7)),
 OG 24 21 false (.bin .gtr (.t 22) (.t 23)),
 O 25 (.pick (.t 21) (.c (.b true)) (.t 24)),
 mM 26 25,
 OG 27 26 false (.load K0 (.t 7)),
 OG 28 26 false (.load K0 (.t 6)),
 OG 29 26 false (.bin .sub (.t 27) (.t 28)),
 OG 30 26 false (.bin .geq (.t 29) (.c (I 4000))),
 O 31 (.pick (.t 26) (.c (.b true)) (.t 30))] [30,29,28,27,26,25,24,23,22,21,20,19,18,17,16,15,14,13]) (
 .cond (.t 31) (sq (.reg [
 O 8 (.mov (.c (.l K0 [] true)))] []) (
 .ret))
 (.skip))) (
 sq (.reg [
 mL 32 7,
 mL 33 6,
 O 34 (.bin .sub (.t 32) (.t 33)),
 O 35 (.bin .add (.t 34) (.c (I 1))),
 O 36 (.mksl K0 8 (I 0) (.t 35) (.t 35)),
 O 9 (.alloc K0 (.l K0 [] true)),
 E (.store K0 (.t 9) (.t 36))] [36,35,34,33,32]) (
 sq (sq (.reg [
 mM 37 0,
 mM 38 1,
 O 39 (.call 2 50 [.t 37,.t 38])] [1,38,0,37]) (
 .block 0 (
 .rng (.t 39) 100041 [40,41] [6,7,9] qnr qns))) (
 sq (sq (.reg [
 mI 12 1] []) (
 .block 2 (
 .loop [9,12] qnt))) (
 sq (.reg [
 mL 75 9,
 mM 8 75] [9,75]) (
 .ret))))))⟩
def F881:PF:=cF Tryz.f58
abbrev qpR:PC:=cL F881.body 0
def qpS:PC :=
 sq (.reg [
 O 12 (.alloc (K1 10) (.a [I 0,I 0,I 0,I 0,I 0,I 0,.s [],.s [],(.l (K1 3) [] true),(.i .u64 0)])),
 E (.store (K1 10) (.t 12) (.t 17))] [17]) (
 .reg [
 mM 13 18] [18])
def qpT:PC :=
 .block 1 (
 .block 2 (
 sq (.reg [
 mF 23 1 12,
 mL 24 23,
 mL 25 6,
 O 26 (.bin .lss (.t 24) (.t 25)),
 mM 27 26,
 OG 28 27 false (.faddr 1 (.t 12)),
 OG 29 27 false (.load K0 (.t 28)),
 OG 30 27 false (.load K0 (.t 7)),
 OG 31 27 false (.bin .gtr (.t 29) (.t 30)),
 O 32 (.pick (.t 27) (.c (.b true)) (.t 31)),
 mM 22 32] [32,31,7,30,29,28,27,26,6,25,24,12,23]) (
 .cond (.t 22) (.skip)
 (sq (.reg [
 mM 34 13,
 O 35 (.bin .gtr (.t 34) (.c (I 0))),
 mM 33 35] [35,34]) (
 .cond (.t 33) (.reg [
 mL 36 10,
 mM 37 13,
 O 38 (.bin .add (.t 36) (.t 37)),
 E (.store K0 (.t 10) (.t 38))] [38,13,37,10,36])
 (.reg [
 mL 19 11,
 mM 20 13,
 O 21 (.bin .sub (.t 19) (.t 20)),
 E (.store K0 (.t 11) (.t 21))] [21,13,20,11,19]))))))
def qlI:PF:=⟨4,[.t 8,.t 9],
 sq (.reg [
 O 6 (.box K0 (.t 2)),
 O 7 (.box K0 (.t 3)),
 mI 8 0,
 mI 9 0] [9,8,3,2]) (
 sq (.reg [
 O 10 (.alloc K0 (I 0)),
 O 11 (.alloc K0 (I 0)),
 E (.store K0 (.t 10) (.c (I 0))),
 E (.store K0 (.t 11) (.c (I 0)))] []) (
 sq (sq (.reg [
 mM 14 0,
 mM 15 1,
 O 16 (.call 2 50 [.t 14,.t 15])] [1,15,0,14]) (
 .block 0 (
 .rng (.t 16) 100018 [17,18] [6,7,10,11] qpS qpT))) (
 sq (.regD [
 mL 39 10,
 mL 40 11,
 mM 8 39,
 mM 9 40] [0,0,1,7] [11,40,10,39]) (
 .ret))))⟩
def qlJ:PF:=cF Tryz.f60
def qlK:PF:=cF Tryz.f61
def qlL:PF:=cF Tryz.f62
def qgK:PF:=cF Tryz.f112
def qic:PF:=cF Tryz.f114
def F918:PF:=cF Tryz.f25
abbrev qnu:PC:=cL F918.body 0
abbrev qpU:PC:=cL qnu 0
def F933:PF:=cF Tryz.f107
abbrev qpW:PC:=cL F933.body 0
def qlN:PF:=cF Tryz.f109
def F946:PF:=cF Tryz.f146
abbrev ql3:PC:=cL F946.body 0
def F947:PF:=cF Tryz.f147
abbrev qpX:PC:=cL F947.body 0
abbrev qkl:PC:=cL F947.body 1
def qlP:PF:=cF Tryz.f63
def qfI:PF:=cF Tryz.f172
end
end Go.Sim
