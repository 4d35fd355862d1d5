/- Part 12 of the proof. -/
import Derived.Test.YtmaaepdecdhmnaaGreatDoorB7
namespace Go.Sim
set_option maxRecDepth 100000
set_option maxHeartbeats 8000000
section
open Go.Proofs Go.Proofs.YtmaaepdecdhmnaaGreatDoor
def qgH:PF:=cF Tryz.f122
def F1041:PF:=cF Tryz.f157
abbrev qlU:PC:=cL F1041.body 0
def F1042:PF:=cF Tryz.f158
abbrev qja:PC:=cL F1042.body 0
def F1048:PF:=cF Tryz.f180
abbrev qpt:PC:=cL F1048.body 0
def qlV:PC :=
 sq (sq (.reg [
 mM 19 7,
 mM 20 1,
 O 21 (.len false (.t 20)),
 O 22 (.bin .lss (.t 19) (.t 21))] [21,20,19]) (
 .cond (.t 22) (.skip)
 (.exit 0))) (
 sq (.block 1 (
 .reg [
 mM 25 6,
 mM 26 1,
 mM 27 7,
 O 28 (.iaddr (K1 2) (.t 26) (.t 27)),
 mF 29 0 28,
 mL 30 29,
 O 31 (.bsl K0 (I 0) 1 [(0,(.t 30))]),
 O 32 (.app K0 8 (.t 25) (.t 31)),
 mM 6 32] [32,31,30,29,28,27,26,25])) (
 .reg [
 mM 23 7,
 O 24 (.bin .add (.t 23) (.c (I 1))),
 mM 7 24] [24,23]))
def qlW:PC :=
 sq (sq (.reg [
 mM 47 10,
 mM 48 1,
 O 49 (.len false (.t 48)),
 O 50 (.bin .lss (.t 47) (.t 49))] [49,48,47]) (
 .cond (.t 50) (.skip)
 (.exit 2))) (
 sq (.block 3 (
 sq (.reg [
 mM 53 1,
 mM 54 10,
 O 55 (.iaddr (K1 2) (.t 53) (.t 54)),
 O 56 (.load (K1 2) (.t 55)),
 O 57 (.call 0 1038 [.t 56]),
 O 58 (.un .not (.t 57))] [57,56,55,54,53]) (
 .cond (.t 58) (sq (.reg [
 O 59 (.agg [I 0,I 0] []),
 E (.store (K1 2) (.t 4) (.t 59)),
 mI 5 1] [59]) (
 .ret))
 (.skip)))) (
 .reg [
 mM 51 10,
 O 52 (.bin .add (.t 51) (.c (I 1))),
 mM 10 52] [52,51]))
def qk8:PF:=⟨2,[.c 4 (K1 2),.t 5],
 sq (.reg [
 O 4 (.alloc (K1 2) (.a [I 0,I 0])),
 mI 5 0] [5]) (
 sq (.reg [
 O 6 (.mov (.c (.l K0 [] true)))] []) (
 sq (sq (.reg [
 mI 7 0] []) (
 .block 0 (
 .loop [0,1,4,6,7] qlV))) (
 sq (.reg [
 mM 34 0,
 mM 35 6,
 O 36 (.call 0 925 [.t 34,.t 35]),
 mM 33 36,
 mX 37 33 0,
 mX 38 33 1,
 mM 8 37,
 mM 9 38] [38,37,33,36,6,35,34]) (
 sq (sq (.reg [
 mM 39 9,
 O 40 (.un .not (.t 39)),
 mM 41 40,
 OG 42 41 false (.mov (.t 1)),
 OG 43 41 false (.len false (.t 42)),
 OG 44 41 false (.bin .eql (.t 43) (.c (I 0))),
 O 45 (.pick (.t 41) (.c (.b true)) (.t 44))] [44,43,42,41,40,9,39]) (
 .cond (.t 45) (sq (.reg [
 O 46 (.agg [I 0,I 0] []),
 E (.store (K1 2) (.t 4) (.t 46)),
 mI 5 3] [46]) (
 .ret))
 (.skip))) (
 sq (sq (.reg [
 mI 10 0] []) (
 .block 2 (
 .loop [0,1,4,8,10] qlW))) (
 sq (.regD [
 mM 60 1,
 O 61 (.iaddr (K1 2) (.t 60) (.c (I 0))),
 mF 62 1 61,
 mL 63 62,
 O 64 (.call 0 1052 [.t 63]),
 mM 65 1,
 mM 66 1,
 O 67 (.len false (.t 66)),
 O 68 (.bin .sub (.t 67) (.c (I 1))),
 O 69 (.iaddr (K1 2) (.t 65) (.t 68)),
 mF 70 1 69,
 mL 71 70,
 O 72 (.call 0 1052 [.t 71]),
 O 11 (.alloc (K1 2) (.a [I 0,(.i .u64 0)])),
 O 12 (.alloc (K1 2) (.a [I 0,(.i .u64 0)])),
 E (.store (K1 2) (.t 11) (.t 64)),
 E (.store (K1 2) (.t 12) (.t 72))] [0,1,3,7,15,0,0,64,192,480,992,2016,4095,0,0,32767,65535] [72,71,70,69,68,67,66,65,64,63,62,61,60]) (
 sq (sq (.reg [
 mM 73 0] []) (
 .block 4 (
 sq (.reg [
 O 75 (.bin .eql (.t 73) (.c (I 5))),
 mM 74 75] [75]) (
 .cond (.t 74) (sq (.reg [
 O 77 (.load (K1 2) (.t 11)),
 O 78 (.load (K1 2) (.t 12)),
 O 79 (.call 0 1053 [.t 77,.t 78]),
 mM 76 79,
 mX 80 76 0,
 mX 81 76 1,
 O 13 (.alloc (K1 2) (.a [I 0,(.i .u64 0)])),
 E (.store (K1 2) (.t 13) (.t 80)),
 mM 14 81] [14,81,80,76,79,12,78,11,77]) (
 sq (.reg [
 mM 82 8,
 O 83 (.load (K1 2) (.t 13)),
 O 84 (.call 0 1054 [.t 82,.t 83]),
 mX 85 84 0,
 mX 86 84 1,
 E (.store (K1 2) (.t 4) (.t 85)),
 mM 5 86] [86,85,84,13,83,8,82]) (
 .ret)))
 (sq (.reg [
 O 88 (.bin .eql (.t 73) (.c (I 6))),
 mM 87 88] [88]) (
 .cond (.t 87) (sq (.reg [
 O 90 (.load (K1 2) (.t 11)),
 O 91 (.load (K1 2) (.t 12)),
 O 92 (.call 0 1055 [.t 90,.t 91]),
 mM 89 92,
 mX 93 89 0,
 mX 94 89 1,
 O 15 (.alloc (K1 2) (.a [I 0,(.i .u64 0)])),
 E (.store (K1 2) (.t 15) (.t 93)),
 mM 16 94] [16,94,93,89,92,12,91,11,90]) (
 sq (.reg [
 mM 95 8,
 O 96 (.load (K1 2) (.t 15)),
 O 97 (.call 0 1054 [.t 95,.t 96]),
 mX 98 97 0,
 mX 99 97 1,
 E (.store (K1 2) (.t 4) (.t 98)),
 mM 5 99] [99,98,97,15,96,8,95]) (
 .ret)))
 (sq (.reg [
 O 101 (.bin .eql (.t 73) (.c (I 9))),
 mM 100 101] [101]) (
 .cond (.t 100) (sq (.reg [
 O 103 (.agg [I 0,(.i .u64 0)] []),
 O 104 (.load (K1 2) (.t 11)),
 O 105 (.call 0 1055 [.t 103,.t 104]),
 mM 102 105,
 mX 106 102 0,
 mX 107 102 1,
 O 17 (.alloc (K1 2) (.a [I 0,(.i .u64 0)])),
 E (.store (K1 2) (.t 17) (.t 106)),
 mM 18 107] [18,107,106,102,105,11,104,103]) (
 sq (.reg [
 mM 108 8,
 O 109 (.load (K1 2) (.t 17)),
 O 110 (.call 0 1054 [.t 108,.t 109]),
 mX 111 110 0,
 mX 112 110 1,
 E (.store (K1 2) (.t 4) (.t 111)),
 mM 5 112] [112,111,110,17,109,8,108]) (
 .ret)))
 (sq (.reg [
 O 114 (.bin .eql (.t 73) (.c (I 7))),
 mM 113 114] [114]) (
 .cond (.t 113) (sq (.regD [
 mM 115 8,
 mM 116 1,
 O 117 (.iaddr (K1 2) (.t 116) (.c (I 0))),
 O 118 (.load (K1 2) (.t 117)),
 mM 119 1,
 O 120 (.iaddr (K1 2) (.t 119) (.c (I 1))),
 O 121 (.load (K1 2) (.t 120)),
 O 122 (.call 0 1056 [.t 115,.t 118,.t 121]),
 mX 123 122 0,
 mX 124 122 1,
 E (.store (K1 2) (.t 4) (.t 123)),
 mM 5 124] [0,0,2,6,0,16,48,127,255,255,1023,2047] [124,123,122,121,120,119,118,117,1,116,8,115]) (
 .ret))
 (sq (.reg [
 O 126 (.bin .eql (.t 73) (.c (I 8))),
 mM 125 126] [126]) (
 .cond (.t 125) (sq (.regD [
 mM 127 8,
 mM 128 1,
 O 129 (.iaddr (K1 2) (.t 128) (.c (I 0))),
 O 130 (.load (K1 2) (.t 129)),
 mM 131 1,
 O 132 (.iaddr (K1 2) (.t 131) (.c (I 1))),
 O 133 (.load (K1 2) (.t 132)),
 O 134 (.call 0 1057 [.t 127,.t 130,.t 133]),
 mX 135 134 0,
 mX 136 134 1,
 E (.store (K1 2) (.t 4) (.t 135)),
 mM 5 136] [0,0,2,6,0,16,48,127,255,255,1023,2047] [136,135,134,133,132,131,130,129,1,128,8,127]) (
 .ret))
 (sq (sq (.reg [
 O 138 (.bin .eql (.t 73) (.c (I 17))),
 mM 137 138] [138]) (
 .cond (.t 137) (.skip)
 (sq (.reg [
 O 139 (.bin .eql (.t 73) (.c (I 18))),
 mM 137 139] [139]) (
 .cond (.t 137) (.skip)
 (.reg [
 O 140 (.bin .eql (.t 73) (.c (I 19))),
 mM 137 140] [73,140]))))) (
 .cond (.t 137) (sq (.reg [
 mM 141 0,
 mM 142 1,
 O 143 (.call 0 1058 [.t 141,.t 142]),
 E (.store (K1 2) (.t 4) (.t 143)),
 mI 5 0] [143,1,142,0,141]) (
 .ret))
 (.skip))))))))))))))) (
 sq (.reg [
 mM 144 0,
 mM 145 1,
 O 146 (.call 0 1059 [.t 144,.t 145]),
 E (.store (K1 2) (.t 4) (.t 146)),
 mI 5 0] [146,1,145,0,144]) (
 .ret)))))))))⟩
def qjS:PF:=cF Tryz.f204
def qlb:PF:=cF Tryz.f205
def qiW:PF:=cF Tryz.f206
def qlc:PF:=cF Tryz.f207
def qjT:PF:=cF Tryz.f208
def qft:PF:=cF Tryz.f209
def qhA:PF:=cF Tryz.f210
def qfH:PF:=cF Tryz.f211
def qiX:PF:=cF Tryz.f231
def qgs:PF:=cF Tryz.f232
def qjU:PF:=cF Tryz.f233
def qle:PF:=cF Tryz.f234
def qg2:PF:=cF Tryz.f235
def qlf:PF:=cF Tryz.f236
def qlg:PF:=cF Tryz.f247
def qiY:PF:=cF Tryz.f248
def qlh:PF:=cF Tryz.f249
def qiZ:PF:=cF Tryz.f250
def qli:PF:=cF Tryz.f251
def qlj:PF:=cF Tryz.f252
def qi0:PF:=cF Tryz.f253
def qh7:PF:=cF Tryz.f254
def F1075:PF:=cF Tryz.f265
abbrev qpu:PC:=cL F1075.body 0
def qjV:PF:=cF Tryz.f266
def F1077:PF:=cF Tryz.f267
abbrev qlX:PC:=cL F1077.body 0
def qlk:PF:=cF Tryz.f285
end
end Go.Sim
