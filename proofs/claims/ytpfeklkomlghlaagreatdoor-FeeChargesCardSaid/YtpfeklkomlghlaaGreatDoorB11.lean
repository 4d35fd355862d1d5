/- Part 11 of the proof. -/
import Derived.Test.YtpfeklkomlghlaaGreatDoorB8
set_option linter.all false
namespace Go.Sim
set_option maxRecDepth 100000
set_option maxHeartbeats 8000000
section
open Go.Proofs Go.Proofs.YtpfeklkomlghlaaGreatDoor
def F31:PF:=cF Tryz.f168
def F35:PF:=cF Tryz.f194
def F36:PF:=cF Tryz.f184
def F37:PF:=cF Tryz.f183
def F42:PF:=cF Tryz.f166
def F43:PF:=⟨2,[.c 4 (K1 2),.t 5,.t 6],sq (.reg [O 2 (.box (K1 2) (.t 0)),O 4 (.alloc (K1 2) (.a [I 0,(.i .u64 0)])),mI 5 0,mI 6 0] [6,5,0]) (sq (sq (.reg [mM 11 1,O 12 (.bin .lss (.t 11) (.c (I 1)))] [11]) (.cond (.t 12) (sq (.reg [O 13 (.agg [I 0,(.i .u64 0)] []),E (.store (K1 2) (.t 4) (.t 13)),mI 5 0,mI 6 1] [13]) (.ret)) (.skip))) (sq (.reg [O 15 (.load (K1 2) (.t 2)),O 16 (.call 0 55 [.t 15]),mM 17 1,O 18 (.conv .u64 (.t 17)),O 19 (.call 0 56 [.t 16,.t 18]),mM 14 19,mX 20 14 0,mX 21 14 1,O 7 (.alloc (K1 2) (.a [(.i .u64 0),(.i .u64 0)])),E (.store (K1 2) (.t 7) (.t 20)),mM 8 21] [21,20,14,19,18,17,16,15]) (sq (sq (.reg [mF 22 0 2,mL 23 22,O 24 (.bin .lss (.t 23) (.c (I 0))),mM 25 24,OG 26 25 true (.mov (.t 8)),OG 27 25 true (.bin .gtr (.t 26) (.c (.i .u64 0))),O 28 (.pick (.t 25) (.t 27) (.c (.b false)))] [27,26,25,24,23,22]) (.cond (.t 28) (sq (.reg [O 30 (.load (K1 2) (.t 7)),O 31 (.call 0 57 [.t 30,(.c (.i .u64 1)),(.c (.i .u64 1))]),mM 29 31,mX 32 29 0,mX 33 29 1,
 E (.store (K1 2) (.t 7) (.t 32))] [33,32,29,31,30]) (.reg [mM 34 1,O 35 (.conv .u64 (.t 34)),mM 36 8,O 37 (.bin .sub (.t 35) (.t 36)),mM 8 37] [37,36,35,1,34])) (.skip))) (sq (.Ba [O 39 (.load (K1 2) (.t 7)),mF 40 0 2,mL 41 40,O 42 (.bin .lss (.t 41) (.c (I 0))),mM 43 42,OG 44 43 true (.load (K1 2) (.t 7)),OG 45 43 true (.agg [(.i .u64 0),(.i .u64 0)] []),OG 46 43 true (.eqv true [1,1] (.t 44) (.t 45)),O 47 (.pick (.t 43) (.t 46) (.c (.b false))),O 48 (.call 0 58 [.t 39,.t 47]),mM 38 48,mX 49 38 0,mX 50 38 1,O 9 (.alloc (K1 2) (.a [I 0,(.i .u64 0)])),E (.store (K1 2) (.t 9) (.t 49)),mM 10 50] [0,0,2,6,14,30,30,126,254,511,1023,2047,2047,0,12287,32767] [10,50,49,38,48,47,46,45,44,43,42,41,2,40,7,39]) (sq (.reg [O 51 (.load (K1 2) (.t 9)),mM 52 8,O 53 (.conv .i64 (.t 52)),E (.store (K1 2) (.t 4) (.t 51)),mM 5 53,mI 6 0] [53,8,52,9,51]) (.ret))))))⟩
def F44:PF:=cF Tryz.f167
def F45:PF:=cF Tryz.f196
def F46:PF:=⟨1,[.t 2,.t 3],sq (.reg [O 1 (.box (K1 2) (.t 0)),mI 2 0,O 3 (.mov (.c (.b false)))] [3,2,0]) (sq (.reg [mF 5 1 1,mL 6 5,O 7 (.conv .i64 (.t 6)),mM 4 7] [7,6,5]) (sq (sq (.Ba [mM 8 4,O 9 (.call 0 44 [.t 8]),O 10 (.load (K1 2) (.t 1)),O 11 (.eqv true [1,1] (.t 9) (.t 10))] [0,1,0,7] [1,10,9,8]) (.cond (.t 11) (sq (.reg [mI 2 0,O 3 (.mov (.c (.b false)))] []) (.ret)) (.skip))) (sq (.reg [mM 12 4,mM 2 12,O 3 (.mov (.c (.b true)))] [4,12]) (.ret))))⟩
def F47:PF:=cF Tryz.f191
def F48:PF:=cF Tryz.f192
def F49:PF:=cF Tryz.f193
def F55:PF:=cF Tryz.f211
def F56:PF:=cF Tryz.f212
def F57:PF:=cF Tryz.f213
def F58:PF:=cF Tryz.f214
def F68:PF:=cF Tryz.f223
abbrev qkc:PC:=cL F68.body 0
abbrev qkd:PC:=cL F68.body 1
def F73:PF:=cF Tryz.f236
def F74:PF:=cF Tryz.f248
def qlp:PF:=cF Tryz.f210
def qjP:PF:=cF Tryz.f222
def F410:PF:=cF Tryz.f148
abbrev qmo:PC:=cL F410.body 0
def F411:PF:=cF Tryz.f149
abbrev qoa:PC:=cL F411.body 0
def qly:PF:=cF Tryz.f159
def qem:PF:=cF Tryz.f162
def qcK:PF:=⟨3,[.t 6,.t 7],sq (.reg [mI 6 0,O 7 (.mov (.c (.b false)))] [7,6]) (sq (sq (.reg [mM 9 0] []) (.block 0 (sq (sq (.reg [O 11 (.bin .eql (.t 9) (.c (I 10))),mM 10 11] [11]) (.cond (.t 10) (.skip) (.reg [O 12 (.bin .eql (.t 9) (.c (I 11))),mM 10 12] [12]))) (.cond (.t 10) (sq (.reg [mM 13 1,mM 14 2,O 15 (.bin .eql (.t 13) (.t 14)),mI 6 5,mM 7 15] [15,2,14,1,13]) (.ret)) (sq (sq (.reg [O 17 (.bin .eql (.t 9) (.c (I 12))),mM 16 17] [17]) (.cond (.t 16) (.skip) (.reg [O 18 (.bin .eql (.t 9) (.c (I 13))),mM 16 18] [18]))) (.cond (.t 16) (sq (.reg [mM 19 1,mM 20 2,O 21 (.bin .eql (.t 19) (.t 20)),mM 22 21,OG 23 22 true (.mov (.t 1)),OG 24 22 true (.bin .neq (.t 23) (.c (I 5))),O 25 (.pick (.t 22) (.t 24) (.c (.b false))),mI 6 5,mM 7 25] [25,24,23,22,21,2,20,1,19]) (.ret)) (sq (sq (.reg [O 27 (.bin .eql (.t 9) (.c (I 14))),mM 26 27] [27]) (.cond (.t 26) (.skip) (.reg [O 28 (.bin .eql (.t 9) (.c (I 15))),mM 26 28] [28]))) (.cond (.t 26) (sq (.reg [mM 29 1,mM 30 2,
 O 31 (.bin .eql (.t 29) (.t 30)),mM 32 31,OG 33 32 true (.mov (.t 1)),OG 34 32 true (.bin .eql (.t 33) (.c (I 5))),O 35 (.pick (.t 32) (.t 34) (.c (.b false))),mI 6 5,mM 7 35] [35,34,33,32,31,2,30,1,29]) (.ret)) (sq (sq (.reg [O 37 (.bin .eql (.t 9) (.c (I 17))),mM 36 37] [37]) (.cond (.t 36) (.skip) (.reg [O 38 (.bin .eql (.t 9) (.c (I 18))),mM 36 38] [9,38]))) (.cond (.t 36) (sq (.reg [mM 39 1,mM 40 1,mM 41 2,O 42 (.bin .eql (.t 40) (.t 41)),mM 43 42,OG 44 43 true (.mov (.t 1)),OG 45 43 true (.bin .neq (.t 44) (.c (I 5))),O 46 (.pick (.t 43) (.t 45) (.c (.b false))),mM 6 39,mM 7 46] [46,45,44,43,42,2,41,40,1,39]) (.ret)) (.skip))))))))))) (sq (.reg [O 47 (.call 2 421 []),mM 48 0,mM 49 1,mM 50 2,O 51 (.agg [I 0,I 0,I 0] [(0,K0,(.t 48)),(1,K0,(.t 49)),(2,K0,(.t 50))]),O 52 (.mget (.st [1,1,1]) (I 0) false (.t 47) (.t 51)),mM 8 52] [52,51,2,50,1,49,0,48,47]) (sq (.reg [mM 53 8,mM 54 8,O 55 (.bin .neq (.t 54) (.c (I 0))),mM 6 53,mM 7 55] [55,54,8,53]) (.ret))))⟩
def qjS:PF:=cF Tryz.f199
def qjU:PF:=cF Tryz.f206
def qdB:PF:=cF Tryz.f207
def qhH:PF:=cF Tryz.f208
def qiv:PF:=cF Tryz.f215
def qe9:PF:=cF Tryz.f218
def F441:PF:=cF Tryz.f220
abbrev qqZ:PC:=cL F441.body 0
def qlB:PF:=cF Tryz.f224
def qlC:PF:=cF Tryz.f231
def qlD:PF:=cF Tryz.f232
def qjV:PF:=cF Tryz.f244
def qiw:PF:=cF Tryz.f245
def qjW:PF:=cF Tryz.f254
def F967:PF:=cF Tryz.f137
abbrev qol:PC:=cL F967.body 0
abbrev qom:PC:=cL F967.body 1
def qce:PF:=cF Tryz.f150
def qeo:PF:=⟨2,[.t 4,.t 5],sq (.reg [mI 4 0,mI 5 0] [5,4]) (sq (.reg [mM 8 1,O 9 (.AJ (K1 2) (.t 8) (.c (I 0))),O 10 (.load (K1 2) (.t 9)),O 6 (.alloc (K1 2) (.a [I 0,I 0])),E (.store (K1 2) (.t 6) (.t 10))] [10,9,8]) (sq (sq (.reg [mM 11 0,O 12 (.bin .eql (.t 11) (.c (I 9)))] [11]) (.cond (.t 12) (sq (.Ba [O 13 (.call 0 44 [(.c (I 0))]),mF 14 1 6,mL 15 14,O 16 (.call 0 44 [.t 15]),O 17 (.call 0 42 [.t 13,.t 16]),mX 18 17 0,mX 19 17 1,O 20 (.call 0 997 [.t 18,.t 19]),mX 21 20 0,mX 22 20 1,mM 4 21,mM 5 22] [0,0,2,7,15,31,31,127,255,255,1023,2047] [22,21,20,19,18,17,16,15,6,14,13]) (.ret)) (.skip))) (sq (.reg [mM 23 1,O 24 (.AJ (K1 2) (.t 23) (.c (I 1))),O 25 (.load (K1 2) (.t 24)),O 7 (.alloc (K1 2) (.a [I 0,I 0])),E (.store (K1 2) (.t 7) (.t 25))] [25,24,1,23]) (sq (sq (.reg [mM 26 0] [0]) (.block 0 (sq (.reg [O 28 (.bin .eql (.t 26) (.c (I 5))),mM 27 28] [28]) (.cond (.t 27) (sq (.Ba [mF 29 1 6,mL 30 29,O 31 (.call 0 44 [.t 30]),mF 32 1 7,mL 33 32,O 34 (.call 0 44 [.t 33]),
 O 35 (.call 0 31 [.t 31,.t 34]),mX 36 35 0,mX 37 35 1,O 38 (.call 0 997 [.t 36,.t 37]),mX 39 38 0,mX 40 38 1,mM 4 39,mM 5 40] [0,1,3,0,8,31,63,127,127,511,1023,1023,4095,8191] [40,39,38,37,36,35,34,33,7,32,31,30,6,29]) (.ret)) (sq (.reg [O 42 (.bin .eql (.t 26) (.c (I 6))),mM 41 42] [42]) (.cond (.t 41) (sq (.Ba [mF 43 1 6,mL 44 43,O 45 (.call 0 44 [.t 44]),mF 46 1 7,mL 47 46,O 48 (.call 0 44 [.t 47]),O 49 (.call 0 42 [.t 45,.t 48]),mX 50 49 0,mX 51 49 1,O 52 (.call 0 997 [.t 50,.t 51]),mX 53 52 0,mX 54 52 1,mM 4 53,mM 5 54] [0,1,3,0,8,31,63,127,127,511,1023,1023,4095,8191] [54,53,52,51,50,49,48,47,7,46,45,44,6,43]) (.ret)) (sq (.reg [O 56 (.bin .eql (.t 26) (.c (I 7))),mM 55 56] [26,56]) (.cond (.t 55) (sq (.reg [O 57 (.load (K1 2) (.t 6)),O 58 (.load (K1 2) (.t 7)),O 59 (.call 0 998 [.t 57,.t 58]),mX 60 59 0,mX 61 59 1,mM 4 60,mM 5 61] [61,60,59,7,58,6,57]) (.ret)) (.skip))))))))) (sq (sq (.reg [mF 62 1 7,mL 63 62,O 64 (.bin .eql (.t 63) (.c (I 0)))] [63,62]) (
 .cond (.t 64) (sq (.reg [mI 4 0,mI 5 7] []) (.ret)) (.skip))) (sq (.reg [O 65 (.load (K1 2) (.t 6)),O 66 (.load (K1 2) (.t 7)),O 67 (.call 0 999 [.t 65,.t 66]),mX 68 67 0,mX 69 67 1,mM 4 68,mM 5 69] [69,68,67,7,66,6,65]) (.ret)))))))⟩
def qj2:PF:=cF Tryz.f164
def qj3:PF:=cF Tryz.f165
def qhJ:PF:=cF Tryz.f169
def qeH:PF:=cF Tryz.f170
