/- Part 9 of the proof. -/
import Derived.Test.YtmaaepdecdhmnaaGreatDoorB7
namespace Go.Sim
set_option maxRecDepth 100000
set_option maxHeartbeats 8000000
section
open Go.Proofs Go.Proofs.YtmaaepdecdhmnaaGreatDoor
def qlZ:PC :=
 sq (sq (.reg [
 mM 10 9,
 mM 11 0,
 O 12 (.len false (.t 11)),
 O 13 (.bin .lss (.t 10) (.t 12))] [12,11,10]) (
 .cond (.t 13) (.skip)
 (.exit 0))) (
 sq (.block 1 (
 sq (.regD [
 mM 16 0,
 mM 17 9,
 O 18 (.iaddr (K1 19) (.t 16) (.t 17)),
 mF 19 0 18,
 mL 20 19,
 mM 21 1,
 O 22 (.bin .eql (.t 20) (.t 21)),
 mM 23 22,
 OG 24 23 true (.mov (.t 0)),
 OG 25 23 true (.mov (.t 9)),
 OG 26 23 true (.iaddr (K1 19) (.t 24) (.t 25)),
 OG 27 23 true (.faddr 3 (.t 26)),
 OG 28 23 true (.load K0 (.t 27)),
 OG 29 23 true (.mov (.t 2)),
 OG 30 23 true (.bin .leq (.t 28) (.t 29)),
 O 31 (.pick (.t 23) (.t 30) (.c (.b false))),
 mM 32 31,
 OG 33 32 true (.mov (.t 8)),
 OG 34 32 true (.bin .lss (.t 33) (.c (I 0))),
 OG 35 32 true (.mov (.t 34)),
 OG 36 35 false (.mov (.t 0)),
 OG 37 35 false (.mov (.t 9)),
 OG 38 35 false (.iaddr (K1 19) (.t 36) (.t 37)),
 OG 39 35 false (.faddr 3 (.t 38)),
 OG 40 35 false (.load K0 (.t 39)),
 OG 41 35 false (.mov (.t 0)),
 OG 42 35 false (.mov (.t 8)),
 OG 43 35 false (.iaddr (K1 19) (.t 41) (.t 42)),
 OG 44 35 false (.faddr 3 (.t 43)),
 OG 45 35 false (.load K0 (.t 44)),
 OG 46 35 false (.bin .gtr (.t 40) (.t 45)),
 OG 47 32 true (.pick (.t 35) (.c (.b true)) (.t 46)),
 O 48 (.pick (.t 32) (.t 47) (.c (.b false)))] [0,0,3,7,15,0,63,127,255,255,1023,2047,4095,255,16383,32767,65535,131071,262143,524287,1048575,1048575,4194303,8388607,16777215,1048575,1048575,101711871,235929599,504365055,1073741823,2147483647,4294967295] [47,46,45,44,43,42,41,40,39,38,37,36,35,34,33,32,31,30,29,28,27,26,25,24,23,22,21,20,19,18,17,16]) (
 .cond (.t 48) (.reg [
 mM 49 9,
 mM 8 49] [49])
 (.skip)))) (
 .reg [
 mM 14 9,
 O 15 (.bin .add (.t 14) (.c (I 1))),
 mM 9 15] [15,14]))
def qj6:PF:=⟨3,[.c 6 (K1 19),.t 7],
 sq (.reg [
 O 6 (.alloc (K1 19) (.a [.s [],.s [],.s [],I 0,I 0,I 0,I 0,(.l (K1 2) [] true),(.b false),I 0,I 0,(.b false),(.l (K1 2) [] true),(.b false),I 0,I 0,(.b false),(.l (K1 10) [] true),(.l (K1 6) [] true)])),
 O 7 (.mov (.c (.b false)))] [7]) (
 sq (.reg [
 O 8 (.mov (.c (I (-1))))] []) (
 sq (sq (.reg [
 mI 9 0] []) (
 .block 0 (
 .loop [0,1,2,6,8,9] qlZ))) (
 sq (sq (.reg [
 mM 50 8,
 O 51 (.bin .lss (.t 50) (.c (I 0)))] [50]) (
 .cond (.t 51) (sq (.reg [
 O 52 (.agg [.s [],.s [],.s [],I 0,I 0,I 0,I 0,(.l (K1 2) [] true),(.b false),I 0,I 0,(.b false),(.l (K1 2) [] true),(.b false),I 0,I 0,(.b false),(.l (K1 10) [] true),(.l (K1 6) [] true)] []),
 E (.store (K1 19) (.t 6) (.t 52)),
 O 7 (.mov (.c (.b false)))] [52]) (
 .ret))
 (.skip))) (
 sq (.reg [
 mM 53 0,
 mM 54 8,
 O 55 (.iaddr (K1 19) (.t 53) (.t 54)),
 O 56 (.load (K1 19) (.t 55)),
 E (.store (K1 19) (.t 6) (.t 56)),
 O 7 (.mov (.c (.b true)))] [56,55,8,54,0,53]) (
 .ret)))))⟩
def F683:PF:=cF Tryz.f67
abbrev qpL:PC:=cL F683.body 0
def qid:PF:=cF Tryz.f54
def F950:PF:=cF Tryz.f105
abbrev qpY:PC:=cL F950.body 0
def qk4:PF:=cF Tryz.f70
def qiU:PF:=cF Tryz.f71
def F1025:PF:=cF Tryz.f115
abbrev qlS:PC:=cL F1025.body 0
def qiV:PF:=cF Tryz.f116
def F1027:PF:=cF Tryz.f117
abbrev qpi:PC:=cL F1027.body 0
def F1028:PF:=cF Tryz.f118
abbrev qpj:PC:=cL F1028.body 0
def F1029:PF:=cF Tryz.f119
abbrev qpk:PC:=cL F1029.body 0
def F1032:PF:=cF Tryz.f124
abbrev qpl:PC:=cL F1032.body 0
def F1034:PF:=cF Tryz.f149
abbrev qpm:PC:=cL F1034.body 0
def qk6:PF:=cF Tryz.f159
def F1044:PF:=cF Tryz.f160
abbrev qpp:PC:=cL F1044.body 0
def F1090:PF:=cF Tryz.f5
abbrev qpv:PC:=cL F1090.body 0
abbrev qpw:PC:=cL F1090.body 1
abbrev qpx:PC:=cL F1090.body 2
def F1094:PF:=cF Tryz.f18
abbrev qpy:PC:=cL F1094.body 0
def F1095:PF:=cF Tryz.f19
abbrev qpz:PC:=cL F1095.body 0
abbrev qpA:PC:=cL F1095.body 1
def F1096:PF:=cF Tryz.f20
abbrev qpB:PC:=cL F1096.body 0
def F66:PF:=cF Tryz.f168
def qj5:PF:=cF Tryz.f80
def qi5:PF:=cF Tryz.f68
def F1030:PF:=cF Tryz.f121
abbrev qnf:PC:=cL F1030.body 0
def qk5:PF:=cF Tryz.f125
def F1035:PF:=cF Tryz.f150
abbrev qng:PC:=cL F1035.body 0
abbrev qpn:PC:=cL qng 0
def F1036:PF:=cF Tryz.f151
abbrev qnh:PC:=cL F1036.body 0
def F1037:PF:=cF Tryz.f152
abbrev qni:PC:=cL F1037.body 0
abbrev qlT:PC:=cL qni 0
def qfV:PF:=cF Tryz.f153
def F1039:PF:=cF Tryz.f154
abbrev qpo:PC:=cL F1039.body 0
def F1045:PF:=cF Tryz.f161
abbrev qpq:PC:=cL F1045.body 0
abbrev qpr:PC:=cL F1045.body 1
def qk7:PF:=cF Tryz.f174
def F1047:PF:=cF Tryz.f175
abbrev qps:PC:=cL F1047.body 0
def qk9:PF:=cF Tryz.f182
def qla:PF:=cF Tryz.f183
def qld:PF:=cF Tryz.f212
def F1018:PF:=cF Tryz.f28
abbrev qkd:PC:=cL F1018.body 0
abbrev qlR:PC:=cL qkd 0
abbrev qii:PC:=cL F1018.body 1
def qk3:PF:=cF Tryz.f66
end
end Go.Sim
