/- Part 9 of the proof. -/
import Derived.Test.YtpfeklkomlghlaaGreatDoorB8
set_option linter.all false
namespace Go.Sim
set_option maxRecDepth 100000
set_option maxHeartbeats 8000000
section
open Go.Proofs Go.Proofs.YtpfeklkomlghlaaGreatDoor
def F12:PF:=cF Tryz.f45
def F16:PF:=cF Tryz.f88
def F18:PF:=qj4 (K1 7)
def F19:PF:=cF Tryz.f114
def F22:PF:=cF Tryz.f46
def F24:PF:=cF Tryz.f22
def F30:PF:=cF Tryz.f62
abbrev qn9:PC:=cL F30.body 0
def F39:PF:=cF Tryz.f47
def F50:PF:=cF Tryz.f92
def F59:PF:=cF Tryz.f118
abbrev qoe:PC:=cL F59.body 0
abbrev qq5:PC:=cL qoe 0
def F65:PF:=cF Tryz.f90
abbrev qq6:PC:=cL F65.body 0
abbrev qq7:PC:=cL F65.body 1
def F71:PF:=cF Tryz.f116
def F72:PF:=cF Tryz.f117
def qlr:PF:=qj4 (K1 3)
def qlt:PF:=cF Tryz.f25
def qlu:PF:=cF Tryz.f63
def qiu:PF:=cF Tryz.f121
def qlv:PF:=cF Tryz.f133
def F400:PF:=cF Tryz.f135
abbrev qj8:PC:=cL F400.body 0
def F405:PF:=cF Tryz.f143
abbrev qqW:PC:=cL F405.body 0
def F406:PF:=cF Tryz.f144
abbrev qqX:PC:=cL F406.body 0
def qjQ:PF:=cF Tryz.f145
def qhF:PF:=cF Tryz.f146
def qlw:PF:=cF Tryz.f147
def qlx:PF:=cF Tryz.f158
def qdk:PF:=cF Tryz.f160
def qel:PF:=cF Tryz.f161
def qjR:PF:=cF Tryz.f134
def qn2:PF:=qj4 (K1 4)
def F420:PF:=cF Tryz.f178
abbrev qj9:PC:=cL F420.body 0
def F422:PF:=cF Tryz.f188
abbrev qka:PC:=cL F422.body 0
def F424:PF:=cF Tryz.f190
abbrev qqY:PC:=cL F424.body 0
def F425:PF:=cF Tryz.f198
abbrev qob:PC:=cL F425.body 0
def qjT:PF:=cF Tryz.f203
def qhG:PF:=cF Tryz.f204
def qlz:PF:=cF Tryz.f205
def qlA:PF:=cF Tryz.f216
def F446:PF:=cF Tryz.f228
abbrev qq0:PC:=cL F446.body 0
def qlY:PF:=cF Tryz.f93
def qq9:PC:= .reg [mM 7 12] [12]
def qra:PC:= .block 1 (.reg [mL 13 5,mM 14 7,O 15 (.bin .sub (.t 13) (.t 14)),E (.store K0 (.t 5) (.t 15))] [15,7,14,5,13])
def qlZ:PF:=⟨2,[.t 4],sq (.reg [mI 4 0] [4]) (sq (.reg [O 5 (.alloc K0 (I 0)),E (.store K0 (.t 5) (.c (I 0)))] []) (sq (sq (.reg [mM 8 0,mM 9 1,O 10 (.call 2 50 [.t 8,.t 9])] [1,9,0,8]) (.block 0 (.rng (.t 10) 100012 [11,12] [5] qq9 qra))) (sq (.reg [mL 16 5,mM 4 16] [5,16]) (.ret))))⟩
def F801:PF:=cF Tryz.f19
abbrev qrb:PC:=cL F801.body 0
abbrev qrc:PC:=cL F801.body 1
def ql1:PF:=cF Tryz.f49
def qoi:PC:= sq (.reg [O 10 (.alloc (K1 10) (.a [I 0,I 0,I 0,I 0,I 0,I 0,.s [],.s [],(.l (K1 3) [] true),(.i .u64 0)])),E (.store (K1 10) (.t 10) (.t 40))] [40]) (.reg [mM 11 41] [41])
def qoj:PC:= .block 1 (sq (.reg [mF 42 2 10,mL 43 42,mL 44 7,O 45 (.bin .leq (.t 43) (.t 44))] [7,44,43,42]) (.cond (.t 45) (.reg [mL 46 9,mL 47 6,mF 48 2 10,mL 49 48,O 50 (.minmax true [.t 47,.t 49]),mL 51 6,O 52 (.bin .sub (.t 50) (.t 51)),O 53 (.AJ K0 (.t 46) (.t 52)),mL 54 53,mM 55 11,O 56 (.bin .sub (.t 54) (.t 55)),O 57 (.AJ K0 (.t 46) (.t 52)),E (.store K0 (.t 57) (.t 56))] [57,56,11,55,54,53,52,51,50,49,10,48,6,47,9,46]) (.skip)))
def qok:PC:= sq (sq (.reg [mM 58 12,mL 59 9,O 60 (.len false (.t 59)),O 61 (.bin .lss (.t 58) (.t 60))] [60,59,58]) (.cond (.t 61) (.skip) (.exit 2))) (sq (.block 3 (.Ba [mL 64 9,mM 65 12,O 66 (.AJ K0 (.t 64) (.t 65)),mL 67 66,mL 68 9,mM 69 12,O 70 (.bin .sub (.t 69) (.c (I 1))),O 71 (.AJ K0 (.t 68) (.t 70)),mL 72 71,O 73 (.bin .add (.t 67) (.t 72)),O 74 (.AJ K0 (.t 64) (.t 65)),E (.store K0 (.t 74) (.t 73))] [0,0,3,7,0,0,32,112,240,511,1023,2047] [74,73,72,71,70,69,68,67,66,65,64])) (.reg [mM 62 12,O 63 (.bin .add (.t 62) (.c (I 1))),mM 12 63] [63,62]))
def qj1:PF:=⟨4,[.t 8],sq (.reg [O 6 (.box K0 (.t 2)),O 7 (.box K0 (.t 3)),O 8 (.mov (.c (.l K0 [] true)))] [8,3,2]) (sq (sq (.reg [mL 13 6,O 14 (.call 0 22 [.t 13]),O 15 (.un .not (.t 14)),mM 16 15,OG 17 16 false (.load K0 (.t 7)),OG 18 16 false (.call 0 22 [.t 17]),OG 19 16 false (.un .not (.t 18)),O 20 (.pick (.t 16) (.c (.b true)) (.t 19)),mM 21 20,OG 22 21 false (.load K0 (.t 6)),OG 23 21 false (.load K0 (.t 7)),OG 24 21 false (.bin .gtr (.t 22) (.t 23)),O 25 (.pick (.t 21) (.c (.b true)) (.t 24)),mM 26 25,OG 27 26 false (.load K0 (.t 7)),OG 28 26 false (.load K0 (.t 6)),OG 29 26 false (.bin .sub (.t 27) (.t 28)),OG 30 26 false (.bin .geq (.t 29) (.c (I 4000))),O 31 (.pick (.t 26) (.c (.b true)) (.t 30))] [30,29,28,27,26,25,24,23,22,21,20,19,18,17,16,15,14,13]) (.cond (.t 31) (sq (.reg [O 8 (.mov (.c (.l K0 [] true)))] []) (.ret)) (.skip))) (sq (.reg [mL 32 7,mL 33 6,O 34 (.bin .sub (.t 32) (.t 33)),O 35 (.bin .add (.t 34) (.c (I 1))),O 36 (.mksl K0 8 (I 0) (.t 35) (.t 35)),
 O 9 (.alloc K0 (.l K0 [] true)),E (.store K0 (.t 9) (.t 36))] [36,35,34,33,32]) (sq (sq (.reg [mM 37 0,mM 38 1,O 39 (.call 2 50 [.t 37,.t 38])] [1,38,0,37]) (.block 0 (.rng (.t 39) 100041 [40,41] [6,7,9] qoi qoj))) (sq (sq (.reg [mI 12 1] []) (.block 2 (.loop [9,12] qok))) (sq (.reg [mL 75 9,mM 8 75] [9,75]) (.ret))))))⟩
def F881:PF:=cF Tryz.f52
abbrev qrf:PC:=cL F881.body 0
def qrg:PC:= sq (.reg [O 12 (.alloc (K1 10) (.a [I 0,I 0,I 0,I 0,I 0,I 0,.s [],.s [],(.l (K1 3) [] true),(.i .u64 0)])),E (.store (K1 10) (.t 12) (.t 17))] [17]) (.reg [mM 13 18] [18])
def qrh:PC:= .block 1 (.block 2 (sq (.reg [mF 23 1 12,mL 24 23,mL 25 6,O 26 (.bin .lss (.t 24) (.t 25)),mM 27 26,OG 28 27 false (.Bo 1 (.t 12)),OG 29 27 false (.load K0 (.t 28)),OG 30 27 false (.load K0 (.t 7)),OG 31 27 false (.bin .gtr (.t 29) (.t 30)),O 32 (.pick (.t 27) (.c (.b true)) (.t 31)),mM 22 32] [32,31,7,30,29,28,27,26,6,25,24,12,23]) (.cond (.t 22) (.skip) (sq (.reg [mM 34 13,O 35 (.bin .gtr (.t 34) (.c (I 0))),mM 33 35] [35,34]) (.cond (.t 33) (.reg [mL 36 10,mM 37 13,O 38 (.bin .add (.t 36) (.t 37)),E (.store K0 (.t 10) (.t 38))] [38,13,37,10,36]) (.reg [mL 19 11,mM 20 13,O 21 (.bin .sub (.t 19) (.t 20)),E (.store K0 (.t 11) (.t 21))] [21,13,20,11,19]))))))
def ql2:PF:=⟨4,[.t 8,.t 9],sq (.reg [O 6 (.box K0 (.t 2)),O 7 (.box K0 (.t 3)),mI 8 0,mI 9 0] [9,8,3,2]) (sq (.reg [O 10 (.alloc K0 (I 0)),O 11 (.alloc K0 (I 0)),E (.store K0 (.t 10) (.c (I 0))),E (.store K0 (.t 11) (.c (I 0)))] []) (sq (sq (.reg [mM 14 0,mM 15 1,O 16 (.call 2 50 [.t 14,.t 15])] [1,15,0,14]) (.block 0 (.rng (.t 16) 100018 [17,18] [6,7,10,11] qrg qrh))) (sq (.Ba [mL 39 10,mL 40 11,mM 8 39,mM 9 40] [0,0,1,7] [11,40,10,39]) (.ret))))⟩
def ql3:PF:=cF Tryz.f54
def ql4:PF:=cF Tryz.f55
def ql5:PF:=cF Tryz.f56
def qen:PF:=cF Tryz.f95
def F933:PF:=cF Tryz.f91
abbrev qri:PC:=cL F933.body 0
def qmd:PF:=cF Tryz.f94
def F946:PF:=cF Tryz.f122
abbrev qmr:PC:=cL F946.body 0
def F947:PF:=cF Tryz.f123
abbrev qrj:PC:=cL F947.body 0
abbrev qkh:PC:=cL F947.body 1
def qc5:PF:=cF Tryz.f136
