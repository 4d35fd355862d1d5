/- Part 12 of the proof. -/
import Derived.Test.YtmaaepdecdhmnaaGreatDoorHB9
import Derived.Test.YtmaaepdecdhmnaaGreatDoorHB10
import Derived.Test.YtmaaepdecdhmnaaGreatDoorHB11
set_option linter.all false
namespace Go.Sim
set_option maxRecDepth 100000
set_option maxHeartbeats 8000000
section
open Go.Proofs Go.Proofs.YtmaaepdecdhmnaaGreatDoor
def F106:PF:=cF Tryz.f129
abbrev qwg:PC:=cL F106.body 0
def qhG:PF:=cF Tryz.f162
def qlA:PF:=cF Tryz.f184
def F260:PF:=cF Tryz.f185
abbrev qwh:PC:=cL F260.body 0
def qlQ:PF:=cF Tryz.f30
def qDW:PC:= sq (sq (.reg [mM 21 5,mM 22 0,O 23 (.len false (.t 22)),O 24 (.bin .lss (.t 21) (.t 23))] [23,22,21]) (.cond (.t 24) (.skip) (.exit 0))) (sq (.block 1 (sq (.reg [mM 27 0,mM 28 5,O 29 (.Az (K1 4) (.t 27) (.t 28)),O 30 (.load (K1 4) (.t 29)),O 6 (.alloc (K1 4) (.a [I 0,I 0,I 0,.s []])),E (.store (K1 4) (.t 6) (.t 30))] [30,29,28,27]) (sq (sq (.reg [mF 31 0 6,mL 32 31,O 33 (.bin .lss (.t 32) (.c (I 1))),mM 34 33,OG 35 34 false (.Be 0 (.t 6)),OG 36 34 false (.load K0 (.t 35)),OG 37 34 false (.bin .gtr (.t 36) (.c (I 999))),O 38 (.pick (.t 34) (.c (.b true)) (.t 37)),mM 39 38,OG 40 39 false (.Be 2 (.t 6)),OG 41 39 false (.load K0 (.t 40)),OG 42 39 false (.bin .lss (.t 41) (.c (I 1))),O 43 (.pick (.t 39) (.c (.b true)) (.t 42)),mM 44 43,OG 45 44 false (.Be 2 (.t 6)),OG 46 44 false (.load K0 (.t 45)),OG 47 44 false (.bin .gtr (.t 46) (.c (I 5))),O 48 (.pick (.t 44) (.c (.b true)) (.t 47))] [47,46,45,44,43,42,41,40,39,38,37,36,35,34,33,32,31]) (.cond (.t 48) (sq (.reg [
 mI 4 1] []) (.ret)) (.skip))) (sq (sq (.A7 [mM 49 5,O 50 (.bin .gtr (.t 49) (.c (I 0))),mM 51 50,OG 52 51 true (.Be 0 (.t 6)),OG 53 51 true (.load K0 (.t 52)),OG 54 51 true (.mov (.t 0)),OG 55 51 true (.mov (.t 5)),OG 56 51 true (.bin .sub (.t 55) (.c (I 1))),OG 57 51 true (.Az (K1 4) (.t 54) (.t 56)),OG 58 51 true (.Be 0 (.t 57)),OG 59 51 true (.load K0 (.t 58)),OG 60 51 true (.bin .leq (.t 53) (.t 59)),O 61 (.pick (.t 51) (.t 60) (.c (.b false)))] [0,1,3,7,15,7,7,71,231,487,999,2047,4095] [60,59,58,57,56,55,54,53,52,51,50,49]) (.cond (.t 61) (sq (.reg [mI 4 10] []) (.ret)) (.skip))) (sq (sq (.reg [mF 62 3 6,mL 63 62,O 64 (.call 0 539 [.t 63]),O 65 (.un .not (.t 64))] [64,63,62]) (.cond (.t 65) (sq (.reg [mI 4 4] []) (.ret)) (.skip))) (sq (sq (.reg [mF 66 1 6,mL 67 66,O 68 (.bin .eql (.t 67) (.c (I 0)))] [67,66]) (.cond (.t 68) (.exit 1) (.skip))) (sq (.A7 [mM 70 0,mM 71 5,O 72 (.sl (K1 4) (.t 70) none (some (.t 71)) none),mF 73 1 6,mL 74 73,O 75 (.call 0 540 [.t 72,.t 74]),
 mM 69 75,mX 76 69 0,mX 77 69 1,O 7 (.alloc (K1 4) (.a [I 0,I 0,I 0,.s []])),E (.store (K1 4) (.t 7) (.t 76)),mM 8 77] [0,0,3,0,8,31,63,127,127,0,767,2047] [77,76,69,75,74,73,72,71,70]) (sq (sq (.reg [mM 78 8,O 79 (.un .not (.t 78))] [8,78]) (.cond (.t 79) (sq (.reg [mI 4 11] []) (.ret)) (.skip))) (sq (.reg [mF 80 2 7,mL 81 80,mF 82 2 6,mL 83 82,O 84 (.bin .neq (.t 81) (.t 83))] [83,6,82,81,7,80]) (.cond (.t 84) (sq (.reg [mI 4 3] []) (.ret)) (.skip))))))))))) (.reg [mM 25 5,O 26 (.bin .add (.t 25) (.c (I 1))),mM 5 26] [26,25]))
def qDX:PC:= sq (sq (.reg [mM 115 11,mM 116 9,O 117 (.len false (.t 116)),O 118 (.bin .lss (.t 115) (.t 117))] [117,116,115]) (.cond (.t 118) (.skip) (.exit 2))) (sq (.block 3 (sq (.A7 [mM 121 0,mM 122 9,mM 123 11,O 124 (.Az K0 (.t 122) (.t 123)),mL 125 124,mM 126 10,mM 127 11,O 128 (.Az K0 (.t 126) (.t 127)),mL 129 128,O 130 (.call 0 541 [.t 121,.t 125,.t 129]),mM 12 130] [0,0,0,6,14,0,0,96,224,511,1023] [130,129,128,127,126,125,124,123,122,121]) (sq (.reg [mM 131 12,O 132 (.bin .neq (.t 131) (.c (I 0)))] [131]) (.cond (.t 132) (sq (.reg [mM 133 12,mM 4 133] [12,133]) (.ret)) (.skip))))) (.reg [mM 119 11,O 120 (.bin .add (.t 119) (.c (I 1))),mM 11 120] [120,119]))
def qlR:PF:=⟨2,[.t 4],sq (.reg [O 3 (.box (K1 14) (.t 1)),mI 4 0] [4,1]) (sq (sq (.reg [mM 13 0,O 14 (.len false (.t 13)),O 15 (.bin .lss (.t 14) (.c (I 1))),mM 16 15,OG 17 16 false (.mov (.t 0)),OG 18 16 false (.len false (.t 17)),OG 19 16 false (.bin .gtr (.t 18) (.c (I 40))),O 20 (.pick (.t 16) (.c (.b true)) (.t 19))] [19,18,17,16,15,14,13]) (.cond (.t 20) (sq (.reg [mI 4 5] []) (.ret)) (.skip))) (sq (sq (.reg [mI 5 0] []) (.block 0 (.loop [0,3,5] qDW))) (sq (.reg [mF 85 0 3,mL 86 85,mF 87 1 3,mL 88 87,mF 89 2 3,mL 90 89,mF 91 3 3,mL 92 91,mF 93 4 3,mL 94 93,mF 95 5 3,mL 96 95,mF 97 6 3,mL 98 97,mF 99 7 3,mL 100 99,mF 101 8 3,mL 102 101,mF 103 9 3,mL 104 103,mF 105 10 3,mL 106 105,mF 107 11 3,mL 108 107,mF 109 12 3,mL 110 109,mF 111 13 3,mL 112 111,O 113 (.bsl K0 (I 0) 14 [(0,(.t 86)),(1,(.t 88)),(2,(.t 90)),(3,(.t 92)),(4,(.t 94)),(5,(.t 96)),(6,(.t 98)),(7,(.t 100)),(8,(.t 102)),(9,(.t 104)),(10,(.t 106)),(11,(.t 108)),(12,(.t 110)),(13,(.t 112))]),
 mM 9 113] [113,112,111,110,109,108,107,106,105,104,103,102,101,100,99,98,97,96,95,94,93,92,91,90,89,88,87,86,3,85]) (sq (.reg [O 114 (.bsl K0 (I 0) 14 [(0,(.c (I 1))),(1,(.c (I 2))),(2,(.c (I 5))),(3,(.c (I 4))),(4,(.c (I 4))),(5,(.c (I 2))),(6,(.c (I 1))),(7,(.c (I 1))),(8,(.c (I 4))),(9,(.c (I 4))),(10,(.c (I 2))),(11,(.c (I 5))),(12,(.c (I 5))),(13,(.c (I 4)))]),mM 10 114] [114]) (sq (sq (.reg [mI 11 0] []) (.block 2 (.loop [0,9,10,11] qDX))) (sq (.reg [mI 4 0] []) (.ret)))))))⟩
def F508:PF:=cF Tryz.f35
abbrev qhR:PC:=cL F508.body 0
def F510:PF:=cF Tryz.f37
abbrev qmJ:PC:=cL F510.body 0
def F511:PF:=cF Tryz.f38
abbrev qmK:PC:=cL F511.body 0
def qlS:PF:=cF Tryz.f198
def qlT:PF:=cF Tryz.f83
def qlU:PF:=cF Tryz.f73
def qlV:PF:=cF Tryz.f33
def qlW:PF:=cF Tryz.f74
def qlX:PF:=cF Tryz.f75
def qlY:PF:=cF Tryz.f76
def qlZ:PF:=cF Tryz.f32
def qdy:PF:=cF Tryz.f34
def qiK:PF:=cF Tryz.f87
def ql0:PF:=cF Tryz.f88
def qeF:PF:=cF Tryz.f91
def ql1:PF:=cF Tryz.f92
def qde:PF:=cF Tryz.f93
def ql2:PF:=cF Tryz.f78
def ql3:PF:=cF Tryz.f79
def ql4:PF:=cF Tryz.f126
def ql5:PF:=cF Tryz.f77
def ql6:PF:=cF Tryz.f81
def ql7:PF:=cF Tryz.f82
def ql8:PF:=cF Tryz.f84
def ql9:PF:=cF Tryz.f85
def qma:PF:=cF Tryz.f86
def qmc:PF:=cF Tryz.f127
def qmd:PF:=cF Tryz.f128
def qme:PF:=cF Tryz.f123
def qmi:PF:=cF Tryz.f156
def F859:PF:=cF Tryz.f178
abbrev qrs:PC:=cL F859.body 0
def F860:PF:=cF Tryz.f179
abbrev qoB:PC:=cL F860.body 0
abbrev qhT:PC:=cL F860.body 1
def qmr:PF:=cF Tryz.f200
def qms:PF:=cF Tryz.f201
def F922:PF:=cF Tryz.f202
abbrev qkt:PC:=cL F922.body 0
abbrev qmO:PC:=cL qkt 0
def qmt:PF:=cF Tryz.f176
def qmu:PF:=cF Tryz.f177
def qmv:PF:=cF Tryz.f203
def qmz:PF:=cF Tryz.f227
def qmA:PF:=cF Tryz.f228
def F953:PF:=cF Tryz.f229
abbrev qwi:PC:=cL F953.body 0
def qmB:PF:=cF Tryz.f199
def qmC:PF:=cF Tryz.f230
def qmD:PF:=cF Tryz.f226
def qmE:PF:=cF Tryz.f245
def qmF:PF:=cF Tryz.f246
def qmG:PF:=cF Tryz.f264
def F1093:PF:=cF Tryz.f9
abbrev qoo:PC:=cL F1093.body 0
abbrev qiO:PC:=cL F1093.body 1
def qop:PC:= sq (sq (.reg [mM 50 5,mM 51 3,O 52 (.bin .lss (.t 50) (.t 51))] [51,50]) (.cond (.t 52) (.skip) (.exit 2))) (sq (.block 3 (sq (.A7 [mF 55 19 1,mL 56 55,mM 57 5,O 58 (.Az (K1 10) (.t 56) (.t 57)),mF 59 6 58,mL 60 59,mF 61 6 4,mL 62 61,O 63 (.bin .eql (.t 60) (.t 62))] [0,1,0,7,15,31,0,64,255] [62,61,60,59,58,57,56,55]) (.cond (.t 63) (sq (.reg [O 2 (.mov (.c (.b false)))] []) (.ret)) (.skip)))) (.reg [mM 53 5,O 54 (.bin .add (.t 53) (.c (I 1))),mM 5 54] [54,53]))
def qiP:PC:= sq (sq (.reg [mM 6 3,mF 7 19 1,mL 8 7,O 9 (.len false (.t 8)),O 10 (.bin .lss (.t 6) (.t 9))] [9,8,7,6]) (.cond (.t 10) (.skip) (.exit 0))) (sq (.block 1 (sq (.reg [mF 13 19 1,mL 14 13,mM 15 3,O 16 (.Az (K1 10) (.t 14) (.t 15)),O 17 (.load (K1 10) (.t 16)),O 4 (.alloc (K1 10) (.a [I 0,I 0,I 0,I 0,I 0,I 0,.s [],.s [],(.l (K1 3) [] true),(.i .u64 0)])),E (.store (K1 10) (.t 4) (.t 17))] [17,16,15,14,13]) (sq (sq (.A7 [mF 18 0 4,mL 19 18,mM 20 3,O 21 (.bin .add (.t 20) (.c (I 1))),O 22 (.bin .neq (.t 19) (.t 21)),mM 23 22,OG 24 23 false (.load (K1 10) (.t 4)),OG 25 23 false (.call 0 679 [.t 24]),OG 26 23 false (.bin .neq (.t 25) (.c (I 0))),O 27 (.pick (.t 23) (.c (.b true)) (.t 26)),mM 28 27,OG 29 28 false (.mov (.t 3)),OG 30 28 false (.bin .gtr (.t 29) (.c (I 0))),OG 31 28 false (.mov (.t 30)),OG 32 31 true (.Be 1 (.t 4)),OG 33 31 true (.load K0 (.t 32)),OG 34 31 true (.Be 19 (.t 1)),OG 35 31 true (.load K0 (.t 34)),OG 36 31 true (.mov (.t 3)),
 OG 37 31 true (.bin .sub (.t 36) (.c (I 1))),OG 38 31 true (.Az (K1 10) (.t 35) (.t 37)),OG 39 31 true (.Be 1 (.t 38)),OG 40 31 true (.load K0 (.t 39)),OG 41 31 true (.bin .lss (.t 33) (.t 40)),OG 42 28 false (.pick (.t 31) (.t 41) (.c (.b false))),O 43 (.pick (.t 28) (.c (.b true)) (.t 42)),mM 44 43,OG 45 44 false (.load (K1 22) (.t 1)),OG 46 44 false (.load (K1 10) (.t 4)),OG 47 44 false (.call 0 1100 [.t 45,.t 46]),OG 48 44 false (.un .not (.t 47)),O 49 (.pick (.t 44) (.c (.b true)) (.t 48))] [0,1,0,4,15,31,63,127,255,511,1023,2047,4095,8191,16383,32767,16383,81919,16383,278527,999423,2047999,4145151,8388607,16777215,33554431,67108863,134217727,134217727,536870911,1073741823,2147483647] [48,47,46,45,44,43,42,41,40,39,38,37,36,35,34,33,32,31,30,29,28,27,26,25,24,23,22,21,20,19,18]) (.cond (.t 49) (sq (.reg [O 2 (.mov (.c (.b false)))] []) (.ret)) (.skip))) (sq (.reg [mI 5 0] []) (.block 2 (.loop [1,3,4,5] qop)))))) (.reg [mM 11 3,O 12 (.bin .add (.t 11) (.c (I 1))),
 mM 3 12] [12,11]))
def qiF:PF:=⟨1,[.t 2],sq (.reg [O 1 (.box (K1 22) (.t 0)),O 2 (.mov (.c (.b false)))] [2,0]) (sq (sq (.reg [mI 3 0] []) (.block 0 (.loop [1,3] qiP))) (sq (.reg [O 2 (.mov (.c (.b true)))] []) (.ret)))⟩
def qlv:PF:=cF Tryz.f90
def F1101:PF:=cF Tryz.f134
abbrev qfi:PC:=cL F1101.body 0
abbrev qra:PC:=cL qfi 0
def qlw:PF:=cF Tryz.f164
def F1103:PF:=cF Tryz.f186
abbrev qiQ:PC:=cL F1103.body 0
def F111:PF:=cF Tryz.f10
abbrev qhQ:PC:=cL F111.body 0
abbrev qoq:PC:=cL F111.body 1
def qj2:PF:=cF Tryz.f39
def F183:PF:=cF Tryz.f40
abbrev qrc:PC:=cL F183.body 0
def qly:PF:=cF Tryz.f41
def F185:PF:=cF Tryz.f42
abbrev qrd:PC:=cL F185.body 0
def F186:PF:=cF Tryz.f43
abbrev qkm:PC:=cL F186.body 0
def F266:PF:=cF Tryz.f94
abbrev qos:PC:=cL F266.body 0
def qlC:PF:=cF Tryz.f95
def qfd:PF:=cF Tryz.f130
def F679:PF:=cF Tryz.f89
abbrev qoy:PC:=cL F679.body 0
abbrev qoz:PC:=cL F679.body 1
def F685:PF:=cF Tryz.f131
abbrev qrm:PC:=cL F685.body 0
def qke:PF:=cF Tryz.f132
def F771:PF:=cF Tryz.f133
abbrev qks:PC:=cL F771.body 0
abbrev qmL:PC:=cL qks 0
def F861:PF:=cF Tryz.f163
abbrev qrt:PC:=cL F861.body 0
def qmx:PF:=cF Tryz.f148
def qkj:PC:= sq (sq (.reg [mM 103 12,mM 104 6,O 105 (.len false (.t 104)),O 106 (.bin .lss (.t 103) (.t 105))] [105,104,103]) (.cond (.t 106) (.skip) (.exit 2))) (sq (.block 3 (sq (.A7 [mM 109 12,mM 110 7,O 111 (.bin .neq (.t 109) (.t 110)),mM 112 111,OG 113 112 true (.mov (.t 6)),OG 114 112 true (.mov (.t 12)),OG 115 112 true (.Az (K1 3) (.t 113) (.t 114)),OG 116 112 true (.Be 0 (.t 115)),OG 117 112 true (.load K0 (.t 116)),OG 118 112 true (.mov (.t 6)),OG 119 112 true (.mov (.t 7)),OG 120 112 true (.Az (K1 3) (.t 118) (.t 119)),OG 121 112 true (.Be 0 (.t 120)),OG 122 112 true (.load K0 (.t 121)),OG 123 112 true (.bin .eql (.t 117) (.t 122)),O 124 (.pick (.t 112) (.t 123) (.c (.b false)))] [0,0,3,7,15,15,63,127,255,15,15,1551,3599,7695,16383,32767] [123,122,121,120,119,118,117,116,115,114,113,112,111,110,109]) (.cond (.t 124) (.reg [mI 11 0] []) (.skip)))) (.reg [mM 107 12,O 108 (.bin .add (.t 107) (.c (I 1))),mM 12 108] [108,107]))
def qkk:PC:= sq (sq (.reg [mM 43 7,mM 44 6,O 45 (.len false (.t 44)),O 46 (.bin .lss (.t 43) (.t 45))] [45,44,43]) (.cond (.t 46) (.skip) (.exit 0))) (sq (.block 1 (sq (sq (.reg [mM 49 6,mM 50 7,O 51 (.Az (K1 3) (.t 49) (.t 50)),mF 52 0 51,mL 53 52,O 54 (.bin .lss (.t 53) (.c (I 1000))),mM 55 54,OG 56 55 false (.mov (.t 6)),OG 57 55 false (.mov (.t 7)),OG 58 55 false (.Az (K1 3) (.t 56) (.t 57)),OG 59 55 false (.Be 1 (.t 58)),OG 60 55 false (.load K0 (.t 59)),OG 61 55 false (.bin .lss (.t 60) (.c (I 0))),O 62 (.pick (.t 55) (.c (.b true)) (.t 61))] [61,60,59,58,57,56,55,54,53,52,51,50,49]) (.cond (.t 62) (.exit 1) (.skip))) (sq (.A7 [O 64 (.load (K1 22) (.t 2)),mM 65 6,mM 66 7,O 67 (.Az (K1 3) (.t 65) (.t 66)),mF 68 0 67,mL 69 68,mF 70 1 3,mL 71 70,O 72 (.call 0 719 [.t 64,.t 69,.t 71]),mM 63 72,mX 73 63 0,mX 74 63 1,mM 8 73,mM 9 74] [0,0,0,6,14,30,0,64,255,511,1023,1023,2047,8191] [74,73,63,72,71,70,69,68,67,66,65,64]) (sq (.A7 [mM 75 8,mF 76 20 2,mL 77 76,mM 78 6,mM 79 7,
 O 80 (.Az (K1 3) (.t 78) (.t 79)),mF 81 0 80,mL 82 81,mF 83 1 3,mL 84 83,O 85 (.call 0 716 [.t 77,.t 82,.t 84]),O 86 (.bin .add (.t 75) (.t 85)),mF 87 21 2,mL 88 87,mM 89 6,mM 90 7,O 91 (.Az (K1 3) (.t 89) (.t 90)),mF 92 0 91,mL 93 92,mF 94 1 3,mL 95 94,O 96 (.call 0 720 [.t 88,.t 93,.t 95]),O 97 (.bin .add (.t 86) (.t 96)),mM 10 97] [0,0,2,0,0,24,56,120,0,256,1022,2047,0,4096,0,0,49152,114688,245760,0,524288,2095102,4194303,8388607] [97,96,95,94,93,92,91,90,89,88,87,86,85,84,83,82,81,80,79,78,77,76,8,75]) (sq (.reg [mM 98 6,mM 99 7,O 100 (.Az (K1 3) (.t 98) (.t 99)),mF 101 1 100,mL 102 101,mM 11 102] [102,101,100,99,98]) (sq (sq (.reg [mI 12 0] []) (.block 2 (.loop [2,3,5,6,7,9,10,11,12] qkj))) (sq (.A7 [mM 125 9,O 126 (.bin .neq (.t 125) (.c (I 0))),mM 127 126,OG 128 127 false (.mov (.t 11)),OG 129 127 false (.bin .gtr (.t 128) (.c (I 0))),OG 130 127 false (.mov (.t 129)),OG 131 130 true (.mov (.t 5)),OG 132 130 true (.mov (.t 6)),OG 133 130 true (.mov (.t 7)),
 OG 134 130 true (.Az (K1 3) (.t 132) (.t 133)),OG 135 130 true (.Be 0 (.t 134)),OG 136 130 true (.load K0 (.t 135)),OG 137 130 true (.call 0 715 [.t 131,.t 136]),OG 138 130 true (.mov (.t 10)),OG 139 130 true (.bin .lss (.t 137) (.t 138)),OG 140 127 false (.pick (.t 130) (.t 139) (.c (.b false))),O 141 (.pick (.t 127) (.c (.b true)) (.t 140)),mM 142 141,OG 143 142 false (.load (K1 22) (.t 2)),OG 144 142 false (.mov (.t 6)),OG 145 142 false (.mov (.t 7)),OG 146 142 false (.Az (K1 3) (.t 144) (.t 145)),OG 147 142 false (.Be 0 (.t 146)),OG 148 142 false (.load K0 (.t 147)),OG 149 142 false (.Be 1 (.t 3)),OG 150 142 false (.load K0 (.t 149)),OG 151 142 false (.call 0 39 [.t 143,.t 148,.t 150]),OG 152 142 false (.un .not (.t 151)),O 153 (.pick (.t 142) (.c (.b true)) (.t 152)),mM 154 153,OG 155 154 false (.Be 21 (.t 2)),OG 156 154 false (.load K0 (.t 155)),OG 157 154 false (.mov (.t 6)),OG 158 154 false (.mov (.t 7)),OG 159 154 false (.Az (K1 3) (.t 157) (.t 158)),
 OG 160 154 false (.Be 0 (.t 159)),OG 161 154 false (.load K0 (.t 160)),OG 162 154 false (.Be 1 (.t 3)),OG 163 154 false (.load K0 (.t 162)),OG 164 154 false (.mov (.t 6)),OG 165 154 false (.mov (.t 7)),OG 166 154 false (.Az (K1 3) (.t 164) (.t 165)),OG 167 154 false (.Be 1 (.t 166)),OG 168 154 false (.load K0 (.t 167)),OG 169 154 false (.call 0 767 [.t 156,.t 161,.t 163,.t 168]),O 170 (.pick (.t 154) (.c (.b true)) (.t 169))] [0,1,3,7,15,31,63,63,63,447,959,1983,4095,63,16383,32767,65535,131071,262143,262143,262143,1835007,3932159,8126463,262143,17039359,67108863,134217727,268435455,536870911,1073741823,2147483647,1073741823,1073741823,13958643711,31138512895,65498251263,1073741823,138512695295,1073741823,1073741823,1650341183487,3849364439039,8247410950143,17592186044415,35184372088831] [169,168,167,166,165,164,163,162,161,160,159,158,157,156,155,154,153,152,151,150,149,148,147,146,145,144,143,142,141,140,139,10,138,137,136,135,134,133,132,131,130,129,11,128,127,126,9,125]) (
 .cond (.t 170) (sq (.reg [O 4 (.mov (.c (.b false)))] []) (.ret)) (.skip))))))))) (.reg [mM 47 7,O 48 (.bin .add (.t 47) (.c (I 1))),mM 7 48] [48,47]))
def qeE:PF:=⟨2,[.t 4],sq (.reg [O 2 (.box (K1 22) (.t 0)),O 3 (.box (K1 10) (.t 1)),O 4 (.mov (.c (.b false)))] [4,1,0]) (sq (sq (.reg [O 13 (.load (K1 22) (.t 2)),O 14 (.call 0 1093 [.t 13]),O 15 (.un .not (.t 14)),mM 16 15,OG 17 16 false (.load (K1 10) (.t 3)),OG 18 16 false (.call 0 111 [.t 17]),OG 19 16 false (.bin .neq (.t 18) (.c (I 0))),O 20 (.pick (.t 16) (.c (.b true)) (.t 19)),mM 21 20,OG 22 21 false (.Be 4 (.t 3)),OG 23 21 false (.load K0 (.t 22)),OG 24 21 false (.bin .neq (.t 23) (.c (I 0))),O 25 (.pick (.t 21) (.c (.b true)) (.t 24)),mM 26 25,OG 27 26 false (.load (K1 22) (.t 2)),OG 28 26 false (.load (K1 10) (.t 3)),OG 29 26 false (.call 0 674 [.t 27,.t 28]),OG 30 26 false (.bin .neq (.t 29) (.c (I 0))),O 31 (.pick (.t 26) (.c (.b true)) (.t 30))] [30,29,28,27,26,25,24,23,22,21,20,19,18,17,16,15,14,13]) (.cond (.t 31) (sq (.reg [O 32 (.call 0 1091 []),mM 4 32] [32]) (.ret)) (.skip))) (sq (.A7 [
 O 33 (.bsl (K1 10) (.a [I 0,I 0,I 0,I 0,I 0,I 0,.s [],.s [],(.l (K1 3) [] true),(.i .u64 0)]) 0 []),mF 34 19 2,mL 35 34,O 36 (.app (K1 10) 112 (.t 33) (.t 35)),O 37 (.load (K1 10) (.t 3)),O 38 (.bsl (K1 10) (.a [I 0,I 0,I 0,I 0,I 0,I 0,.s [],.s [],(.l (K1 3) [] true),(.i .u64 0)]) 1 [(0,(.t 37))]),O 39 (.app (K1 10) 112 (.t 36) (.t 38)),mM 5 39] [0,0,2,7,0,16,63,127] [39,38,37,36,35,34,33]) (sq (.reg [mF 40 8 3,mL 41 40,O 42 (.call 0 110 [.t 41]),mM 6 42] [42,41,40]) (sq (sq (.reg [mI 7 0] []) (.block 0 (.loop [2,3,5,6,7] qkk))) (sq (.reg [O 171 (.call 0 1091 []),mM 4 171] [171]) (.ret))))))⟩
noncomputable def qv6:PF:=qoS (dg Tryz.f113) [[1,6,7],[1,16,17]]
noncomputable def qv7:PF:=qoS (dg Tryz.f239) [[1,16,17],[1,33,34]]
noncomputable def qv8:PF:=dg Tryz.f279
noncomputable def qv9:PF:=dg Tryz.f288
noncomputable def qwa:PF:=qoS (dg Tryz.f292) [[0,3,4,5,6],[0,9,10,12],[0,9,10,11,12],[0,9,10,12]]
noncomputable def qwb:PF:=qoS (dg Tryz.f144) [[0,10,11,12],[0,4,10,11,12,24,25,26]]
noncomputable def qv3:PF:=dg Tryz.f6
noncomputable def qv4:PF:=dg Tryz.f21
noncomputable def qv5:PF:=dg Tryz.f24
end
noncomputable def tabF:PT:=
 (.bin 537 qlU (.bin 341 F341 (.bin 66 F66 (.bin 43 F43 (.bin 30 F30 (.bin 19 F19 (.bin 16 F16 (.bin 12 F12 .nil .nil) (.bin 18 F18 .nil .nil)) (.bin 24 F24 (.bin 22 F22 .nil .nil) .nil)) (.bin 37 F37 (.bin 35 F35 (.bin 31 F31 .nil .nil) (.bin 36 F36 .nil .nil)) (.bin 42 F42 (.bin 39 F39 .nil .nil) .nil))) (.bin 50 F50 (.bin 47 F47 (.bin 45 F45 (.bin 44 F44 .nil .nil) (.bin 46 F46 .nil .nil)) (.bin 49 F49 (.bin 48 F48 .nil .nil) .nil)) (.bin 58 F58 (.bin 56 F56 (.bin 55 F55 .nil .nil) (.bin 57 F57 .nil .nil)) (.bin 65 F65 (.bin 59 F59 .nil .nil) .nil)))) (.bin 183 F183 (.bin 110 qlu (.bin 73 F73 (.bin 71 F71 (.bin 68 F68 .nil .nil) (.bin 72 F72 .nil .nil)) (.bin 106 F106 (.bin 74 F74 .nil .nil) .nil)) (.bin 180 F180 (.bin 177 qhG (.bin 111 F111 .nil .nil) (.bin 179 F179 .nil .nil)) (.bin 182 qj2 (.bin 181 qlx .nil .nil) .nil))) (.bin 262 F262 (.bin 207 qlz (.bin 185 F185 (.bin 184 qly .nil .nil) (.bin 186 F186 .nil .nil)) (.bin 260 F260 (.bin 259 qlA .nil .nil) .nil)) (.bin 267 qlC (.bin 265 qiG (.bin 263 qlB .nil .nil) (.bin 266 F266 .nil .nil)) (.bin 291 qj3 (.bin 268 qlD .nil .nil) .nil))))) (.bin 426 qj6 (.bin 411 F411 (.bin 400 F400 (.bin 382 qlG (.bin 344 qlF (.bin 342 qlE .nil .nil) (.bin 371 qv6 .nil .nil)) (.bin 399 qlH (.bin 387 qiH .nil .nil) .nil)) (.bin 408 qhH (.bin 406 F406 (.bin 405 F405 .nil .nil) (.bin 407 qj4 .nil .nil)) (.bin 410 F410 (.bin 409 qlI .nil .nil) .nil))) (.bin 418 qcj (.bin 415 qdQ (.bin 413 qlK (.bin 412 qlJ .nil .nil) (.bin 414 qcV .nil .nil)) (.bin 417 qdR (.bin 416 qj5 .nil .nil) .nil)) (.bin 422 F422 (.bin 420 F420 (.bin 419 qok .nil .nil) (.bin 421 qv7 .nil .nil)) (.bin 425 F425 (.bin 424 F424 .nil .nil) .nil)))) (.bin 443 qlN (.bin 435 qv8 (.bin 432 qj8 (.bin 430 qhI (.bin 429 qj7 .nil .nil) (.bin 431 qlL .nil .nil)) (.bin 434 qhJ (.bin 433 qdd .nil .nil) .nil)) (.bin 439 qfb (.bin 437 qlM (.bin 436 qiI .nil .nil) (.bin 438 qv9 .nil .nil)) (.bin 442 qwa (.bin 441 F441 .nil .nil) .nil))) (.bin 504 qlQ (.bin 460 qj9 (.bin 449 qlO (.bin 446 F446 .nil .nil) (.bin 450 qlP .nil .nil)) (.bin 468 qka (.bin 461 qiJ .nil .nil) .nil)) (.bin 511 F511 (.bin 508 F508 (.bin 506 qlR .nil .nil) (.bin 510 F510 .nil .nil)) (.bin 513 qlT (.bin 512 qlS .nil .nil) .nil)))))) (.bin 881 F881 (.bin 678 qme (.bin 595 ql3 (.bin 544 qfc (.bin 541 qlY (.bin 539 qlW (.bin 538 qlV .nil .nil) (.bin 540 qlX .nil .nil)) (.bin 543 qdy (.bin 542 qlZ .nil .nil) .nil)) (.bin 550 ql1 (.bin 546 ql0 (.bin 545 qiK .nil .nil) (.bin 549 qeF .nil .nil)) (.bin 552 ql2 (.bin 551 qde .nil .nil) .nil))) (.bin 602 qma (.bin 599 ql7 (.bin 597 ql5 (.bin 596 ql4 .nil .nil) (.bin 598 ql6 .nil .nil)) (.bin 601 ql9 (.bin 600 ql8 .nil .nil) .nil)) (.bin 674 F674 (.bin 607 qfd (.bin 603 qkb .nil .nil) (.bin 634 qmb .nil .nil)) (.bin 677 qmd (.bin 676 qmc .nil .nil) .nil)))) (.bin 770 qke (.bin 716 F716 (.bin 685 F685 (.bin 683 qkc (.bin 679 F679 .nil .nil) (.bin 684 qkd .nil .nil)) (.bin 715 qmg (.bin 708 qmf .nil .nil) .nil)) (.bin 767 qmh (.bin 720 F720 (.bin 719 qiL .nil .nil) (.bin 724 qol .nil .nil)) (.bin 769 qmi (.bin 768 qhK .nil .nil) .nil))) (.bin 857 qfe (.bin 804 qmj (.bin 801 F801 (.bin 771 F771 .nil .nil) (.bin 803 F803 .nil .nil)) (.bin 856 qml (.bin 855 qmk .nil .nil) .nil)) (.bin 861 F861 (.bin 859 F859 (.bin 858 F858 .nil .nil) (.bin 860 F860 .nil .nil)) (.bin 880 qkf (.bin 879 qmm .nil .nil) .nil))))) (.bin 966 qcH (.bin 925 qmv (.bin 918 F918 (.bin 885 qmq (.bin 883 qmo (.bin 882 qmn .nil .nil) (.bin 884 qmp .nil .nil)) (.bin 917 qhL (.bin 916 qdS .nil .nil) .nil)) (.bin 922 F922 (.bin 920 qmr (.bin 919 qhM .nil .nil) (.bin 921 qms .nil .nil)) (.bin 924 qmu (.bin 923 qmt .nil .nil) .nil))) (.bin 949 qmy (.bin 946 F946 (.bin 934 qmw (.bin 933 F933 .nil .nil) (.bin 945 qwb .nil .nil)) (.bin 948 qmx (.bin 947 F947 .nil .nil) .nil)) (.bin 953 F953 (.bin 951 qmz (.bin 950 F950 .nil .nil) (.bin 952 qmA .nil .nil)) (.bin 955 qmC (.bin 954 qmB .nil .nil) .nil)))) (.bin 1090 qcG (.bin 985 qmG (.bin 970 qmF (.bin 968 qmD (.bin 967 F967 .nil .nil) (.bin 969 qmE .nil .nil)) (.bin 984 qdT (.bin 983 qbL .nil .nil) .nil)) (.bin 999 qeG (.bin 997 qkh (.bin 996 qkg .nil .nil) (.bin 998 qhN .nil .nil)) (.bin 1089 qeE (.bin 1023 qjZ .nil .nil) .nil))) (.bin 1098 qv5 (.bin 1095 qj0 (.bin 1093 F1093 (.bin 1091 qv3 .nil .nil) (.bin 1094 qhF .nil .nil)) (.bin 1097 qv4 (.bin 1096 qj1 .nil .nil) .nil)) (.bin 1101 F1101 (.bin 1100 qlv (.bin 1099 qiF .nil .nil) .nil) (.bin 1103 F1103 (.bin 1102 qlw .nil .nil) .nil)))))))
def xsL:CF (Nat×XK):=[(423,.cnt),(440,.par),(451,.ato)]
def rsL:CF (Nat×RK):=[(269,.ins (K1 2) 24),(264,.ins (K1 3) 32)]
def gsL:CF (Nat×DV×K):=[(0,.a [.i .u64 1,.i .u64 10,.i .u64 100,.i .u64 1000,.i .u64 10000,.i .u64 100000,.i .u64 1000000,.i .u64 10000000,.i .u64 100000000,.i .u64 1000000000,.i .u64 10000000000,.i .u64 100000000000,.i .u64 1000000000000,.i .u64 10000000000000,.i .u64 100000000000000,.i .u64 1000000000000000,.i .u64 10000000000000000,.i .u64 100000000000000000,.i .u64 1000000000000000000,.i .u64 10000000000000000000],some 20),(4,.a (asciiL.map λz=>.i .u8 z),some 256),(5,.tok 0,none),(6,.tok 1,none)]
noncomputable def TA25G:Tab:=qnJ tabF xsL rsL gsL
