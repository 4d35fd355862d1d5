/- Part 12 of the proof. -/
import Derived.Test.YtpfeklkomlghlaaGreatDoorB9
import Derived.Test.YtpfeklkomlghlaaGreatDoorB10
import Derived.Test.YtpfeklkomlghlaaGreatDoorB11
set_option linter.all false
namespace Go.Sim
set_option maxRecDepth 100000
set_option maxHeartbeats 8000000
section
open Go.Proofs Go.Proofs.YtpfeklkomlghlaaGreatDoor
def F106:PF:=cF Tryz.f104
abbrev qvZ:PC:=cL F106.body 0
def qhE:PF:=cF Tryz.f128
def qlq:PF:=cF Tryz.f140
def F260:PF:=cF Tryz.f141
abbrev qv1:PC:=cL F260.body 0
def F504:PF:=cF Tryz.f27
abbrev qkb:PC:=cL F504.body 0
def qcL:PC:= sq (sq (.reg [mM 21 5,mM 22 0,O 23 (.len false (.t 22)),O 24 (.bin .lss (.t 21) (.t 23))] [23,22,21]) (.cond (.t 24) (.skip) (.exit 0))) (sq (.block 1 (sq (.reg [mM 27 0,mM 28 5,O 29 (.AJ (K1 4) (.t 27) (.t 28)),O 30 (.load (K1 4) (.t 29)),O 6 (.alloc (K1 4) (.a [I 0,I 0,I 0,.s []])),E (.store (K1 4) (.t 6) (.t 30))] [30,29,28,27]) (sq (sq (.reg [mF 31 0 6,mL 32 31,O 33 (.bin .lss (.t 32) (.c (I 1))),mM 34 33,OG 35 34 false (.Bo 0 (.t 6)),OG 36 34 false (.load K0 (.t 35)),OG 37 34 false (.bin .gtr (.t 36) (.c (I 999))),O 38 (.pick (.t 34) (.c (.b true)) (.t 37)),mM 39 38,OG 40 39 false (.Bo 2 (.t 6)),OG 41 39 false (.load K0 (.t 40)),OG 42 39 false (.bin .lss (.t 41) (.c (I 1))),O 43 (.pick (.t 39) (.c (.b true)) (.t 42)),mM 44 43,OG 45 44 false (.Bo 2 (.t 6)),OG 46 44 false (.load K0 (.t 45)),OG 47 44 false (.bin .gtr (.t 46) (.c (I 5))),O 48 (.pick (.t 44) (.c (.b true)) (.t 47))] [47,46,45,44,43,42,41,40,39,38,37,36,35,34,33,32,31]) (.cond (.t 48) (sq (.reg [
 mI 4 1] []) (.ret)) (.skip))) (sq (sq (.Ba [mM 49 5,O 50 (.bin .gtr (.t 49) (.c (I 0))),mM 51 50,OG 52 51 true (.Bo 0 (.t 6)),OG 53 51 true (.load K0 (.t 52)),OG 54 51 true (.mov (.t 0)),OG 55 51 true (.mov (.t 5)),OG 56 51 true (.bin .sub (.t 55) (.c (I 1))),OG 57 51 true (.AJ (K1 4) (.t 54) (.t 56)),OG 58 51 true (.Bo 0 (.t 57)),OG 59 51 true (.load K0 (.t 58)),OG 60 51 true (.bin .leq (.t 53) (.t 59)),O 61 (.pick (.t 51) (.t 60) (.c (.b false)))] [0,1,3,7,15,7,7,71,231,487,999,2047,4095] [60,59,58,57,56,55,54,53,52,51,50,49]) (.cond (.t 61) (sq (.reg [mI 4 10] []) (.ret)) (.skip))) (sq (sq (.reg [mF 62 3 6,mL 63 62,O 64 (.call 0 539 [.t 63]),O 65 (.un .not (.t 64))] [64,63,62]) (.cond (.t 65) (sq (.reg [mI 4 4] []) (.ret)) (.skip))) (sq (sq (.reg [mF 66 1 6,mL 67 66,O 68 (.bin .eql (.t 67) (.c (I 0)))] [67,66]) (.cond (.t 68) (.exit 1) (.skip))) (sq (.Ba [mM 70 0,mM 71 5,O 72 (.sl (K1 4) (.t 70) none (some (.t 71)) none),mF 73 1 6,mL 74 73,O 75 (.call 0 540 [.t 72,.t 74]),
 mM 69 75,mX 76 69 0,mX 77 69 1,O 7 (.alloc (K1 4) (.a [I 0,I 0,I 0,.s []])),E (.store (K1 4) (.t 7) (.t 76)),mM 8 77] [0,0,3,0,8,31,63,127,127,0,767,2047] [77,76,69,75,74,73,72,71,70]) (sq (sq (.reg [mM 78 8,O 79 (.un .not (.t 78))] [8,78]) (.cond (.t 79) (sq (.reg [mI 4 11] []) (.ret)) (.skip))) (sq (.reg [mF 80 2 7,mL 81 80,mF 82 2 6,mL 83 82,O 84 (.bin .neq (.t 81) (.t 83))] [83,6,82,81,7,80]) (.cond (.t 84) (sq (.reg [mI 4 3] []) (.ret)) (.skip))))))))))) (.reg [mM 25 5,O 26 (.bin .add (.t 25) (.c (I 1))),mM 5 26] [26,25]))
def qoc:PC:= sq (sq (.reg [mM 115 11,mM 116 9,O 117 (.len false (.t 116)),O 118 (.bin .lss (.t 115) (.t 117))] [117,116,115]) (.cond (.t 118) (.skip) (.exit 2))) (sq (.block 3 (sq (.Ba [mM 121 0,mM 122 9,mM 123 11,O 124 (.AJ K0 (.t 122) (.t 123)),mL 125 124,mM 126 10,mM 127 11,O 128 (.AJ K0 (.t 126) (.t 127)),mL 129 128,O 130 (.call 0 541 [.t 121,.t 125,.t 129]),mM 12 130] [0,0,0,6,14,0,0,96,224,511,1023] [130,129,128,127,126,125,124,123,122,121]) (sq (.reg [mM 131 12,O 132 (.bin .neq (.t 131) (.c (I 0)))] [131]) (.cond (.t 132) (sq (.reg [mM 133 12,mM 4 133] [12,133]) (.ret)) (.skip))))) (.reg [mM 119 11,O 120 (.bin .add (.t 119) (.c (I 1))),mM 11 120] [120,119]))
def qfa:PF:=⟨2,[.t 4],sq (.reg [O 3 (.box (K1 14) (.t 1)),mI 4 0] [4,1]) (sq (sq (.reg [mM 13 0,O 14 (.len false (.t 13)),O 15 (.bin .lss (.t 14) (.c (I 1))),mM 16 15,OG 17 16 false (.mov (.t 0)),OG 18 16 false (.len false (.t 17)),OG 19 16 false (.bin .gtr (.t 18) (.c (I 40))),O 20 (.pick (.t 16) (.c (.b true)) (.t 19))] [19,18,17,16,15,14,13]) (.cond (.t 20) (sq (.reg [mI 4 5] []) (.ret)) (.skip))) (sq (sq (.reg [mI 5 0] []) (.block 0 (.loop [0,3,5] qcL))) (sq (.reg [mF 85 0 3,mL 86 85,mF 87 1 3,mL 88 87,mF 89 2 3,mL 90 89,mF 91 3 3,mL 92 91,mF 93 4 3,mL 94 93,mF 95 5 3,mL 96 95,mF 97 6 3,mL 98 97,mF 99 7 3,mL 100 99,mF 101 8 3,mL 102 101,mF 103 9 3,mL 104 103,mF 105 10 3,mL 106 105,mF 107 11 3,mL 108 107,mF 109 12 3,mL 110 109,mF 111 13 3,mL 112 111,O 113 (.bsl K0 (I 0) 14 [(0,(.t 86)),(1,(.t 88)),(2,(.t 90)),(3,(.t 92)),(4,(.t 94)),(5,(.t 96)),(6,(.t 98)),(7,(.t 100)),(8,(.t 102)),(9,(.t 104)),(10,(.t 106)),(11,(.t 108)),(12,(.t 110)),(13,(.t 112))]),
 mM 9 113] [113,112,111,110,109,108,107,106,105,104,103,102,101,100,99,98,97,96,95,94,93,92,91,90,89,88,87,86,3,85]) (sq (.reg [O 114 (.bsl K0 (I 0) 14 [(0,(.c (I 1))),(1,(.c (I 2))),(2,(.c (I 5))),(3,(.c (I 4))),(4,(.c (I 4))),(5,(.c (I 2))),(6,(.c (I 1))),(7,(.c (I 1))),(8,(.c (I 4))),(9,(.c (I 4))),(10,(.c (I 2))),(11,(.c (I 5))),(12,(.c (I 5))),(13,(.c (I 4)))]),mM 10 114] [114]) (sq (sq (.reg [mI 11 0] []) (.block 2 (.loop [0,9,10,11] qoc))) (sq (.reg [mI 4 0] []) (.ret)))))))⟩
def F508:PF:=cF Tryz.f32
abbrev qhM:PC:=cL F508.body 0
def qlE:PF:=cF Tryz.f34
def qlF:PF:=cF Tryz.f35
def qlG:PF:=cF Tryz.f174
def qlH:PF:=cF Tryz.f76
def F537:PF:=cF Tryz.f66
abbrev qod:PC:=cL F537.body 0
def qlI:PF:=cF Tryz.f30
def qlJ:PF:=cF Tryz.f67
def F540:PF:=cF Tryz.f68
abbrev qq1:PC:=cL F540.body 0
def qix:PF:=cF Tryz.f69
def qlK:PF:=cF Tryz.f29
def F543:PF:=cF Tryz.f31
abbrev qq2:PC:=cL F543.body 0
abbrev qq3:PC:=cL F543.body 1
def qiy:PF:=cF Tryz.f80
def qlL:PF:=cF Tryz.f81
def qlM:PF:=cF Tryz.f84
def qlN:PF:=cF Tryz.f85
def qlO:PF:=cF Tryz.f86
def qlP:PF:=cF Tryz.f71
def qlQ:PF:=cF Tryz.f72
def qlR:PF:=cF Tryz.f100
def qlS:PF:=cF Tryz.f70
def F598:PF:=cF Tryz.f74
abbrev qv2:PC:=cL F598.body 0
def F599:PF:=cF Tryz.f75
abbrev qq4:PC:=cL F599.body 0
def qlT:PF:=cF Tryz.f77
def qiz:PF:=cF Tryz.f78
def qlU:PF:=cF Tryz.f79
def qlV:PF:=cF Tryz.f101
def qlW:PF:=cF Tryz.f102
def qlX:PF:=cF Tryz.f103
def ql0:PF:=cF Tryz.f127
def F859:PF:=cF Tryz.f138
abbrev qrd:PC:=cL F859.body 0
def F860:PF:=cF Tryz.f139
abbrev qoh:PC:=cL F860.body 0
abbrev qhO:PC:=cL F860.body 1
def ql8:PF:=cF Tryz.f152
def ql9:PF:=cF Tryz.f153
def F922:PF:=cF Tryz.f154
abbrev qkg:PC:=cL F922.body 0
abbrev qmq:PC:=cL qkg 0
def qma:PF:=cF Tryz.f155
def qmb:PF:=cF Tryz.f156
def qmc:PF:=cF Tryz.f157
def qme:PF:=cF Tryz.f171
def qmf:PF:=cF Tryz.f172
def F953:PF:=cF Tryz.f173
abbrev qv4:PC:=cL F953.body 0
def qmg:PF:=cF Tryz.f175
def qmh:PF:=cF Tryz.f176
def qmi:PF:=cF Tryz.f185
def qmj:PF:=cF Tryz.f186
def qmk:PF:=cF Tryz.f187
def qml:PF:=cF Tryz.f197
def F1093:PF:=cF Tryz.f10
abbrev qn5:PC:=cL F1093.body 0
abbrev qiC:PC:=cL F1093.body 1
def qDv:PC:= sq (sq (.reg [mM 50 5,mM 51 3,O 52 (.bin .lss (.t 50) (.t 51))] [51,50]) (.cond (.t 52) (.skip) (.exit 2))) (sq (.block 3 (sq (.Ba [mF 55 19 1,mL 56 55,mM 57 5,O 58 (.AJ (K1 10) (.t 56) (.t 57)),mF 59 6 58,mL 60 59,mF 61 6 4,mL 62 61,O 63 (.bin .eql (.t 60) (.t 62))] [0,1,0,7,15,31,0,64,255] [62,61,60,59,58,57,56,55]) (.cond (.t 63) (sq (.reg [O 2 (.mov (.c (.b false)))] []) (.ret)) (.skip)))) (.reg [mM 53 5,O 54 (.bin .add (.t 53) (.c (I 1))),mM 5 54] [54,53]))
def qDw:PC:= sq (sq (.reg [mM 6 3,mF 7 19 1,mL 8 7,O 9 (.len false (.t 8)),O 10 (.bin .lss (.t 6) (.t 9))] [9,8,7,6]) (.cond (.t 10) (.skip) (.exit 0))) (sq (.block 1 (sq (.reg [mF 13 19 1,mL 14 13,mM 15 3,O 16 (.AJ (K1 10) (.t 14) (.t 15)),O 17 (.load (K1 10) (.t 16)),O 4 (.alloc (K1 10) (.a [I 0,I 0,I 0,I 0,I 0,I 0,.s [],.s [],(.l (K1 3) [] true),(.i .u64 0)])),E (.store (K1 10) (.t 4) (.t 17))] [17,16,15,14,13]) (sq (sq (.Ba [mF 18 0 4,mL 19 18,mM 20 3,O 21 (.bin .add (.t 20) (.c (I 1))),O 22 (.bin .neq (.t 19) (.t 21)),mM 23 22,OG 24 23 false (.load (K1 10) (.t 4)),OG 25 23 false (.call 0 679 [.t 24]),OG 26 23 false (.bin .neq (.t 25) (.c (I 0))),O 27 (.pick (.t 23) (.c (.b true)) (.t 26)),mM 28 27,OG 29 28 false (.mov (.t 3)),OG 30 28 false (.bin .gtr (.t 29) (.c (I 0))),OG 31 28 false (.mov (.t 30)),OG 32 31 true (.Bo 1 (.t 4)),OG 33 31 true (.load K0 (.t 32)),OG 34 31 true (.Bo 19 (.t 1)),OG 35 31 true (.load K0 (.t 34)),OG 36 31 true (.mov (.t 3)),
 OG 37 31 true (.bin .sub (.t 36) (.c (I 1))),OG 38 31 true (.AJ (K1 10) (.t 35) (.t 37)),OG 39 31 true (.Bo 1 (.t 38)),OG 40 31 true (.load K0 (.t 39)),OG 41 31 true (.bin .lss (.t 33) (.t 40)),OG 42 28 false (.pick (.t 31) (.t 41) (.c (.b false))),O 43 (.pick (.t 28) (.c (.b true)) (.t 42)),mM 44 43,OG 45 44 false (.load (K1 22) (.t 1)),OG 46 44 false (.load (K1 10) (.t 4)),OG 47 44 false (.call 0 1100 [.t 45,.t 46]),OG 48 44 false (.un .not (.t 47)),O 49 (.pick (.t 44) (.c (.b true)) (.t 48))] [0,1,0,4,15,31,63,127,255,511,1023,2047,4095,8191,16383,32767,16383,81919,16383,278527,999423,2047999,4145151,8388607,16777215,33554431,67108863,134217727,134217727,536870911,1073741823,2147483647] [48,47,46,45,44,43,42,41,40,39,38,37,36,35,34,33,32,31,30,29,28,27,26,25,24,23,22,21,20,19,18]) (.cond (.t 49) (sq (.reg [O 2 (.mov (.c (.b false)))] []) (.ret)) (.skip))) (sq (.reg [mI 5 0] []) (.block 2 (.loop [1,3,4,5] qDv)))))) (.reg [mM 11 3,O 12 (.bin .add (.t 11) (.c (I 1))),
 mM 3 12] [12,11]))
def qll:PF:=⟨1,[.t 2],sq (.reg [O 1 (.box (K1 22) (.t 0)),O 2 (.mov (.c (.b false)))] [2,0]) (sq (sq (.reg [mI 3 0] []) (.block 0 (.loop [1,3] qDw))) (sq (.reg [O 2 (.mov (.c (.b true)))] []) (.ret)))⟩
def qlm:PF:=cF Tryz.f83
def F1101:PF:=cF Tryz.f110
abbrev qfh:PC:=cL F1101.body 0
abbrev qqS:PC:=cL qfh 0
def qln:PF:=cF Tryz.f130
def F1103:PF:=cF Tryz.f142
abbrev qiD:PC:=cL F1103.body 0
def F9:PF:=cF Tryz.f17
def F14:PF:=cF Tryz.f44
def F111:PF:=cF Tryz.f11
abbrev qhL:PC:=cL F111.body 0
abbrev qn6:PC:=cL F111.body 1
def qjO:PF:=cF Tryz.f36
def F183:PF:=cF Tryz.f37
abbrev qqU:PC:=cL F183.body 0
def qlo:PF:=cF Tryz.f38
def F185:PF:=cF Tryz.f39
abbrev qqV:PC:=cL F185.body 0
def F186:PF:=cF Tryz.f8
abbrev qj7:PC:=cL F186.body 0
def F266:PF:=cF Tryz.f23
abbrev qn8:PC:=cL F266.body 0
def qls:PF:=cF Tryz.f24
def qfc:PF:=cF Tryz.f106
def F679:PF:=cF Tryz.f82
abbrev qof:PC:=cL F679.body 0
abbrev qog:PC:=cL F679.body 1
def F685:PF:=cF Tryz.f107
abbrev qq8:PC:=cL F685.body 0
def qj0:PF:=cF Tryz.f108
def F771:PF:=cF Tryz.f109
abbrev qke:PC:=cL F771.body 0
abbrev qmp:PC:=cL qke 0
def F861:PF:=cF Tryz.f129
abbrev qre:PC:=cL F861.body 0
def F717:PF:=cF Tryz.f6
abbrev qhN:PC:=cL F717.body 0
def qdC:PF:=cF Tryz.f18
def qfd:PF:=⟨1,[.t 2,.t 3],sq (.reg [O 1 (.box (K1 11) (.t 0)),mI 2 0,mI 3 0] [3,2,0]) (sq (.reg [O 4 (.mov (.f 886))] []) (sq (.reg [mM 8 4,O 9 (.load (K1 11) (.t 1)),O 10 (.BI (.t 8) [.t 9]),mM 7 10,mX 11 7 0,mX 12 7 1,O 5 (.alloc (K1 2) (.a [I 0,I 0])),E (.store (K1 2) (.t 5) (.t 11)),mM 6 12] [12,11,7,10,9,4,8]) (sq (sq (.reg [mM 13 6,O 14 (.bin .neq (.t 13) (.c (I 0))),mM 15 14,OG 16 15 false (.load (K1 2) (.t 5)),OG 17 15 false (.agg [I 0,I 0] [(0,K0,(.c (I 5))),(1,K0,(.c (I 1)))]),OG 18 15 false (.eqv true [1,1] (.t 16) (.t 17)),O 19 (.pick (.t 15) (.c (.b true)) (.t 18))] [18,17,16,15,14,13]) (.cond (.t 19) (sq (.reg [mM 20 6,mI 2 0,mM 3 20] [6,20]) (.ret)) (.skip))) (sq (.reg [O 4 (.mov (.f 887))] []) (sq (.reg [mM 22 4,O 23 (.load (K1 11) (.t 1)),O 24 (.BI (.t 22) [.t 23]),mM 21 24,mX 25 21 0,mX 26 21 1,E (.store (K1 2) (.t 5) (.t 25)),mM 6 26] [26,25,21,24,1,23,4,22]) (sq (sq (.reg [mM 27 6,O 28 (.bin .neq (.t 27) (.c (I 0)))] [27]) (.cond (.t 28) (sq (.reg [mM 29 6,mI 2 0,
 mM 3 29] [6,29]) (.ret)) (.skip))) (sq (.reg [mF 30 1 5,mL 31 30,O 32 (.minmax true [(.c (I 0)),.t 31]),mM 2 32,mI 3 0] [32,31,5,30]) (.ret))))))))⟩
def F878:PF:=cF Tryz.f48
abbrev qkf:PC:=cL F878.body 0
def ql6:PF:=cF Tryz.f57
def ql7:PF:=cF Tryz.f58
def F932:PF:=cF Tryz.f89
abbrev qv3:PC:=cL F932.body 0
def qqK:PF:=cF Tryz.f16
def F633:PF:=cF Tryz.f7
abbrev qiE:PC:=cL F633.body 0
def F1126:PF:=cF Tryz.f9
abbrev qqT:PC:=cL F1126.body 0
def qn7:PC:= sq (sq (.reg [mM 77 10,mM 78 5,O 79 (.len false (.t 78)),O 80 (.bin .lss (.t 77) (.t 79))] [79,78,77]) (.cond (.t 80) (.skip) (.exit 0))) (sq (.block 1 (sq (.reg [mM 83 5,mM 84 10,O 85 (.AJ (K1 2) (.t 83) (.t 84)),mF 86 1 85,mL 87 86,O 88 (.bin .lss (.t 87) (.c (I 1)))] [87,86,85,84,83]) (.cond (.t 88) (sq (.reg [O 4 (.mov (.c (.b false)))] []) (.ret)) (.skip)))) (.reg [mM 81 10,O 82 (.bin .add (.t 81) (.c (I 1))),mM 10 82] [82,81]))
def qj6:PC:= sq (sq (.reg [mM 103 12,mF 104 8 7,mL 105 104,O 106 (.len false (.t 105)),O 107 (.bin .lss (.t 103) (.t 106))] [106,105,104,103]) (.cond (.t 107) (.skip) (.exit 2))) (sq (.block 3 (sq (.Ba [mF 110 8 7,mL 111 110,mM 112 12,O 113 (.AJ (K1 3) (.t 111) (.t 112)),mF 114 0 113,mL 115 114,mF 116 0 3,mL 117 116,O 118 (.bin .eql (.t 115) (.t 117))] [0,1,0,7,15,31,0,64,255] [117,116,115,114,113,112,111,110]) (.cond (.t 118) (.reg [mM 119 11,mF 120 8 7,mL 121 120,mM 122 12,O 123 (.AJ (K1 3) (.t 121) (.t 122)),mF 124 1 123,mL 125 124,O 126 (.bin .add (.t 119) (.t 125)),mM 11 126] [126,125,124,123,122,121,120,119]) (sq (.Ba [mF 127 8 7,mL 128 127,mM 129 12,O 130 (.AJ (K1 3) (.t 128) (.t 129)),mF 131 0 130,mL 132 131,mF 133 3 2,mF 134 4 133,mL 135 134,O 136 (.bin .neq (.t 132) (.t 135))] [0,1,0,7,15,31,0,64,192,511] [135,134,133,132,131,130,129,128,127]) (.cond (.t 136) (sq (.reg [O 4 (.mov (.c (.b false)))] []) (.ret)) (.skip)))))) (.reg [mM 108 12,
 O 109 (.bin .add (.t 108) (.c (I 1))),mM 12 109] [109,108]))
def qek:PF:=⟨2,[.t 4],sq (.reg [O 2 (.box (K1 22) (.t 0)),O 3 (.box (K1 4) (.t 1)),O 4 (.mov (.c (.b false)))] [4,1,0]) (sq (sq (.reg [O 14 (.load (K1 22) (.t 2)),O 15 (.call 0 1090 [.t 14])] [14]) (.cond (.t 15) (sq (.reg [O 16 (.call 0 1123 []),mM 4 16] [16]) (.ret)) (.skip))) (sq (.reg [O 18 (.load (K1 22) (.t 2)),mF 19 0 3,mL 20 19,mF 21 1 3,mL 22 21,mF 23 2 3,mL 24 23,mF 25 3 3,mL 26 25,O 27 (.call 0 717 [.t 18,.t 20,.t 22,.t 24,.t 26]),mM 17 27,mX 28 17 0,mX 29 17 1,mM 5 28,mM 6 29] [29,28,17,27,26,25,24,23,22,21,20,19,18]) (sq (.reg [O 31 (.load (K1 22) (.t 2)),mF 32 0 3,mL 33 32,mF 34 1 3,mL 35 34,mF 36 2 3,mL 37 36,mF 38 3 3,mL 39 38,O 40 (.call 0 633 [.t 31,.t 33,.t 35,.t 37,.t 39,(.c (.s [107]))]),mM 30 40,mX 41 30 0,mX 42 30 1,mX 43 30 2,O 7 (.alloc (K1 10) (.a [I 0,I 0,I 0,I 0,I 0,I 0,.s [],.s [],(.l (K1 3) [] true),(.i .u64 0)])),E (.store (K1 10) (.t 7) (.t 41)),mM 8 42,mM 9 43] [43,42,41,30,40,39,38,37,36,35,34,33,32,31]) (sq (sq (.reg [mM 44 6,
 O 45 (.bin .neq (.t 44) (.c (I 0)))] [44]) (.cond (.t 45) (sq (.reg [mM 46 9,mM 47 6,O 48 (.bin .eql (.t 46) (.t 47)),mM 49 48,OG 50 49 true (.mov (.t 8)),OG 51 49 true (.un .not (.t 50)),O 52 (.pick (.t 49) (.t 51) (.c (.b false))),mM 53 52,OG 54 53 true (.mov (.t 5)),OG 55 53 true (.len false (.t 54)),OG 56 53 true (.bin .eql (.t 55) (.c (I 0))),O 57 (.pick (.t 53) (.t 56) (.c (.b false))),mM 58 57,OG 59 58 true (.call 0 1123 []),O 60 (.pick (.t 58) (.t 59) (.c (.b false))),mM 4 60] [60,59,58,57,56,55,5,54,53,52,51,8,50,49,48,6,47,9,46]) (.ret)) (.skip))) (sq (sq (.reg [mM 61 9,O 62 (.bin .neq (.t 61) (.c (I 0)))] [61]) (.cond (.t 62) (sq (.reg [mM 63 9,O 64 (.bin .eql (.t 63) (.c (I 6))),mM 65 64,OG 66 65 true (.mov (.t 5)),OG 67 65 true (.len false (.t 66)),OG 68 65 true (.bin .gtr (.t 67) (.c (I 0))),O 69 (.pick (.t 65) (.t 68) (.c (.b false))),mM 70 69,OG 71 70 true (.mov (.t 8)),OG 72 70 true (.un .not (.t 71)),O 73 (.pick (.t 70) (.t 72) (.c (.b false))),mM 74 73,
 OG 75 74 true (.call 0 1123 []),O 76 (.pick (.t 74) (.t 75) (.c (.b false))),mM 4 76] [76,75,74,73,72,8,71,70,69,68,67,5,66,65,64,9,63]) (.ret)) (.skip))) (sq (sq (.reg [mI 10 0] []) (.block 0 (.loop [2,3,5,7,8,10] qn7))) (sq (sq (.reg [mM 89 8,mM 90 5,O 91 (.len false (.t 90)),O 92 (.bin .gtr (.t 91) (.c (I 0))),O 93 (.eqb true (.t 89) (.t 92))] [92,91,90,89]) (.cond (.t 93) (sq (.reg [O 4 (.mov (.c (.b false)))] []) (.ret)) (.skip))) (sq (sq (.reg [mM 94 8,O 95 (.un .not (.t 94))] [8,94]) (.cond (.t 95) (sq (.reg [mF 96 8 7,mL 97 96,O 98 (.len false (.t 97)),O 99 (.bin .eql (.t 98) (.c (I 0))),mM 100 99,OG 101 100 true (.call 0 1123 []),O 102 (.pick (.t 100) (.t 101) (.c (.b false))),mM 4 102] [102,101,100,99,98,97,7,96]) (.ret)) (.skip))) (sq (.reg [mI 11 0] []) (sq (sq (.reg [mI 12 0] []) (.block 2 (.loop [2,3,5,7,11,12] qj6))) (sq (.reg [mF 137 8 7,mL 138 137,O 139 (.call 0 186 [.t 138]),mM 13 139] [139,138,137]) (sq (sq (.reg [mM 140 13,O 141 (.len false (.t 140)),
 O 142 (.bin .neq (.t 141) (.c (I 1))),mM 143 142,OG 144 143 false (.mov (.t 13)),OG 145 143 false (.AJ (K1 2) (.t 144) (.c (I 0))),OG 146 143 false (.Bo 1 (.t 145)),OG 147 143 false (.load K0 (.t 146)),OG 148 143 false (.bin .neq (.t 147) (.c (I 0))),O 149 (.pick (.t 143) (.c (.b true)) (.t 148)),mM 150 149,OG 151 150 false (.Bo 1 (.t 7)),OG 152 150 false (.load K0 (.t 151)),OG 153 150 false (.Bo 1 (.t 3)),OG 154 150 false (.load K0 (.t 153)),OG 155 150 false (.bin .neq (.t 152) (.t 154)),O 156 (.pick (.t 150) (.c (.b true)) (.t 155)),mM 157 156,OG 158 157 false (.Bo 4 (.t 7)),OG 159 157 false (.load K0 (.t 158)),OG 160 157 false (.bin .neq (.t 159) (.c (I 1))),O 161 (.pick (.t 157) (.c (.b true)) (.t 160))] [160,159,158,157,156,155,154,153,152,151,150,149,148,147,146,145,144,143,142,141,13,140]) (.cond (.t 161) (sq (.reg [O 4 (.mov (.c (.b false)))] []) (.ret)) (.skip))) (sq (sq (.reg [mF 162 0 3,mL 163 162,mF 164 3 2,mF 165 4 164,mL 166 165,
 O 167 (.bin .eql (.t 163) (.t 166))] [166,165,164,163,3,162]) (.cond (.t 167) (sq (.reg [O 168 (.call 0 1123 []),mM 4 168] [168]) (.ret)) (.skip))) (sq (.reg [mM 169 11,mM 170 5,O 171 (.call 0 1126 [.t 170]),O 172 (.bin .eql (.t 169) (.t 171)),mM 173 172,OG 174 173 true (.load (K1 22) (.t 2)),OG 175 173 true (.call 0 1093 [.t 174]),OG 176 173 true (.un .not (.t 175)),OG 177 173 true (.mov (.t 176)),OG 178 177 false (.load (K1 10) (.t 7)),OG 179 177 false (.call 0 111 [.t 178]),OG 180 177 false (.bin .eql (.t 179) (.c (I 0))),OG 181 173 true (.pick (.t 177) (.c (.b true)) (.t 180)),O 182 (.pick (.t 173) (.t 181) (.c (.b false))),mM 183 182,OG 184 183 true (.call 0 1123 []),O 185 (.pick (.t 183) (.t 184) (.c (.b false))),mM 4 185] [185,184,183,182,181,180,179,7,178,177,176,175,2,174,173,172,171,5,170,11,169]) (.ret)))))))))))))))⟩
noncomputable def qvO:PF:=qoy (dg Tryz.f96) [[1,6,7],[1,16,17]]
noncomputable def qvP:PF:=qoy (dg Tryz.f179) [[1,16,17],[1,33,34]]
noncomputable def qvQ:PF:=dg Tryz.f209
noncomputable def qvR:PF:=dg Tryz.f217
noncomputable def qvS:PF:=qoy (dg Tryz.f221) [[0,3,4,5,6],[0,9,10,12],[0,9,10,11,12],[0,9,10,12]]
noncomputable def qvT:PF:=qoy (dg Tryz.f120) [[0,10,11,12],[0,4,10,11,12,24,25,26]]
noncomputable def qvJ:PF:=dg Tryz.f5
noncomputable def qvK:PF:=dg Tryz.f15
noncomputable def qvL:PF:=dg Tryz.f41
noncomputable def qvM:PF:=dg Tryz.f42
noncomputable def qvN:PF:=dg Tryz.f43
end
noncomputable def tabF:PT:=
 (.bin 537 F537 (.bin 371 qvO (.bin 58 F58 (.bin 39 F39 (.bin 22 F22 (.bin 16 F16 (.bin 12 F12 (.bin 9 F9 .nil .nil) (.bin 14 F14 .nil .nil)) (.bin 19 F19 (.bin 18 F18 .nil .nil) .nil)) (.bin 35 F35 (.bin 30 F30 (.bin 24 F24 .nil .nil) (.bin 31 F31 .nil .nil)) (.bin 37 F37 (.bin 36 F36 .nil .nil) .nil))) (.bin 48 F48 (.bin 45 F45 (.bin 43 F43 (.bin 42 F42 .nil .nil) (.bin 44 F44 .nil .nil)) (.bin 47 F47 (.bin 46 F46 .nil .nil) .nil)) (.bin 55 F55 (.bin 50 F50 (.bin 49 F49 .nil .nil) .nil) (.bin 57 F57 (.bin 56 F56 .nil .nil) .nil)))) (.bin 183 F183 (.bin 73 F73 (.bin 68 F68 (.bin 65 F65 (.bin 59 F59 .nil .nil) (.bin 66 F66 .nil .nil)) (.bin 72 F72 (.bin 71 F71 .nil .nil) .nil)) (.bin 111 F111 (.bin 106 F106 (.bin 74 F74 .nil .nil) .nil) (.bin 182 qjO (.bin 177 qhE .nil .nil) .nil))) (.bin 265 qlr (.bin 207 qlp (.bin 185 F185 (.bin 184 qlo .nil .nil) (.bin 186 F186 .nil .nil)) (.bin 260 F260 (.bin 259 qlq .nil .nil) .nil)) (.bin 268 qlt (.bin 267 qls (.bin 266 F266 .nil .nil) .nil) (.bin 344 qlu (.bin 291 qjP .nil .nil) .nil))))) (.bin 430 qhG (.bin 414 qdk (.bin 408 qhF (.bin 405 F405 (.bin 399 qlv (.bin 387 qiu .nil .nil) (.bin 400 F400 .nil .nil)) (.bin 407 qjQ (.bin 406 F406 .nil .nil) .nil)) (.bin 411 F411 (.bin 410 F410 (.bin 409 qlw .nil .nil) .nil) (.bin 413 qly (.bin 412 qlx .nil .nil) .nil))) (.bin 421 qvP (.bin 418 qcK (.bin 416 qjR (.bin 415 qel .nil .nil) (.bin 417 qem .nil .nil)) (.bin 420 F420 (.bin 419 qn2 .nil .nil) .nil)) (.bin 425 F425 (.bin 424 F424 (.bin 422 F422 .nil .nil) .nil) (.bin 429 qjT (.bin 426 qjS .nil .nil) .nil)))) (.bin 446 F446 (.bin 437 qlA (.bin 434 qhH (.bin 432 qjU (.bin 431 qlz .nil .nil) (.bin 433 qdB .nil .nil)) (.bin 436 qiv (.bin 435 qvQ .nil .nil) .nil)) (.bin 441 F441 (.bin 439 qe9 (.bin 438 qvR .nil .nil) .nil) (.bin 443 qlB (.bin 442 qvS .nil .nil) .nil))) (.bin 506 qfa (.bin 461 qiw (.bin 450 qlD (.bin 449 qlC .nil .nil) (.bin 460 qjV .nil .nil)) (.bin 504 F504 (.bin 468 qjW .nil .nil) .nil)) (.bin 511 qlF (.bin 510 qlE (.bin 508 F508 .nil .nil) .nil) (.bin 513 qlH (.bin 512 qlG .nil .nil) .nil)))))) (.bin 887 ql7 (.bin 678 qlX (.bin 595 qlQ (.bin 544 qfb (.bin 541 qix (.bin 539 qlJ (.bin 538 qlI .nil .nil) (.bin 540 F540 .nil .nil)) (.bin 543 F543 (.bin 542 qlK .nil .nil) .nil)) (.bin 550 qlN (.bin 546 qlL (.bin 545 qiy .nil .nil) (.bin 549 qlM .nil .nil)) (.bin 552 qlP (.bin 551 qlO .nil .nil) .nil))) (.bin 602 qlU (.bin 599 F599 (.bin 597 qlS (.bin 596 qlR .nil .nil) (.bin 598 F598 .nil .nil)) (.bin 601 qiz (.bin 600 qlT .nil .nil) .nil)) (.bin 633 F633 (.bin 607 qfc (.bin 603 qjX .nil .nil) .nil) (.bin 677 qlW (.bin 676 qlV .nil .nil) .nil)))) (.bin 802 qfd (.bin 717 F717 (.bin 685 F685 (.bin 683 qjY (.bin 679 F679 .nil .nil) (.bin 684 qjZ .nil .nil)) (.bin 715 qlZ (.bin 708 qlY .nil .nil) .nil)) (.bin 771 F771 (.bin 770 qj0 (.bin 769 ql0 .nil .nil) .nil) (.bin 801 F801 (.bin 800 qdC .nil .nil) .nil))) (.bin 881 F881 (.bin 878 F878 (.bin 860 F860 (.bin 859 F859 .nil .nil) (.bin 861 F861 .nil .nil)) (.bin 880 qj1 (.bin 879 ql1 .nil .nil) .nil)) (.bin 884 ql4 (.bin 883 ql3 (.bin 882 ql2 .nil .nil) .nil) (.bin 886 ql6 (.bin 885 ql5 .nil .nil) .nil))))) (.bin 983 qce (.bin 946 F946 (.bin 924 qmb (.bin 921 ql9 (.bin 919 qhI (.bin 916 qen .nil .nil) (.bin 920 ql8 .nil .nil)) (.bin 923 qma (.bin 922 F922 .nil .nil) .nil)) (.bin 933 F933 (.bin 932 F932 (.bin 925 qmc .nil .nil) .nil) (.bin 945 qvT (.bin 934 qmd .nil .nil) .nil))) (.bin 955 qmh (.bin 952 qmf (.bin 950 F950 (.bin 947 F947 .nil .nil) (.bin 951 qme .nil .nil)) (.bin 954 qmg (.bin 953 F953 .nil .nil) .nil)) (.bin 968 qmi (.bin 967 F967 (.bin 966 qc5 .nil .nil) .nil) (.bin 970 qmk (.bin 969 qmj .nil .nil) .nil)))) (.bin 1099 qll (.bin 1023 qjM (.bin 997 qj3 (.bin 985 qml (.bin 984 qeo .nil .nil) (.bin 996 qj2 .nil .nil)) (.bin 999 qeH (.bin 998 qhJ .nil .nil) .nil)) (.bin 1094 qhD (.bin 1093 F1093 (.bin 1090 F1090 .nil .nil) .nil) (.bin 1096 qjN (.bin 1095 F1095 .nil .nil) .nil))) (.bin 1125 qvK (.bin 1103 F1103 (.bin 1101 F1101 (.bin 1100 qlm .nil .nil) (.bin 1102 qln .nil .nil)) (.bin 1124 qqK (.bin 1123 qvJ .nil .nil) .nil)) (.bin 1128 qvM (.bin 1127 qvL (.bin 1126 F1126 .nil .nil) .nil) (.bin 1132 qek (.bin 1129 qvN .nil .nil) .nil)))))))
def xsL:CL (Nat×XK):=[(718,.join),(956,.clone (K1 4) 56),(423,.cnt),(440,.par),(451,.ato)]
def rsL:CL (Nat×RK):=[(269,.ins (K1 2) 24)]
def gsL:CL (Nat×DV×K):=[(0,.a [.i .u64 1,.i .u64 10,.i .u64 100,.i .u64 1000,.i .u64 10000,.i .u64 100000,.i .u64 1000000,.i .u64 10000000,.i .u64 100000000,.i .u64 1000000000,.i .u64 10000000000,.i .u64 100000000000,.i .u64 1000000000000,.i .u64 10000000000000,.i .u64 100000000000000,.i .u64 1000000000000000,.i .u64 10000000000000000,.i .u64 100000000000000000,.i .u64 1000000000000000000,.i .u64 10000000000000000000],some 20),(4,.a (asciiL.map λz=>.i .u8 z),some 256),(5,.tok 0,none),(6,.tok 1,none)]
noncomputable def TA28C:Tab:=qni tabF xsL rsL gsL
