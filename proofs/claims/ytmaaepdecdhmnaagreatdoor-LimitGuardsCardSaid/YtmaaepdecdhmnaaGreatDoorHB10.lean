/- Part 10 of the proof. -/
import Derived.Test.YtmaaepdecdhmnaaGreatDoorHB8
set_option linter.all false
namespace Go.Sim
set_option maxRecDepth 100000
set_option maxHeartbeats 8000000
section
open Go.Proofs Go.Proofs.YtmaaepdecdhmnaaGreatDoor
def qDY:PC:= sq (sq (.reg [mM 10 9,mM 11 0,O 12 (.len false (.t 11)),O 13 (.bin .lss (.t 10) (.t 12))] [12,11,10]) (.cond (.t 13) (.skip) (.exit 0))) (sq (.block 1 (sq (.A7 [mM 16 0,mM 17 9,O 18 (.Az (K1 19) (.t 16) (.t 17)),mF 19 0 18,mL 20 19,mM 21 1,O 22 (.bin .eql (.t 20) (.t 21)),mM 23 22,OG 24 23 true (.mov (.t 0)),OG 25 23 true (.mov (.t 9)),OG 26 23 true (.Az (K1 19) (.t 24) (.t 25)),OG 27 23 true (.Be 3 (.t 26)),OG 28 23 true (.load K0 (.t 27)),OG 29 23 true (.mov (.t 2)),OG 30 23 true (.bin .leq (.t 28) (.t 29)),O 31 (.pick (.t 23) (.t 30) (.c (.b false))),mM 32 31,OG 33 32 true (.mov (.t 8)),OG 34 32 true (.bin .lss (.t 33) (.c (I 0))),OG 35 32 true (.mov (.t 34)),OG 36 35 false (.mov (.t 0)),OG 37 35 false (.mov (.t 9)),OG 38 35 false (.Az (K1 19) (.t 36) (.t 37)),OG 39 35 false (.Be 3 (.t 38)),OG 40 35 false (.load K0 (.t 39)),OG 41 35 false (.mov (.t 0)),OG 42 35 false (.mov (.t 8)),OG 43 35 false (.Az (K1 19) (.t 41) (.t 42)),OG 44 35 false (.Be 3 (.t 43)),
 OG 45 35 false (.load K0 (.t 44)),OG 46 35 false (.bin .gtr (.t 40) (.t 45)),OG 47 32 true (.pick (.t 35) (.c (.b true)) (.t 46)),O 48 (.pick (.t 32) (.t 47) (.c (.b false)))] [0,0,3,7,15,0,63,127,255,255,1023,2047,4095,255,16383,32767,65535,131071,262143,524287,1048575,1048575,4194303,8388607,16777215,1048575,1048575,101711871,235929599,504365055,1073741823,2147483647,4294967295] [47,46,45,44,43,42,41,40,39,38,37,36,35,34,33,32,31,30,29,28,27,26,25,24,23,22,21,20,19,18,17,16]) (.cond (.t 48) (.reg [mM 49 9,mM 8 49] [49]) (.skip)))) (.reg [mM 14 9,O 15 (.bin .add (.t 14) (.c (I 1))),mM 9 15] [15,14]))
def qkb:PF:=⟨3,[.c 6 (K1 19),.t 7],sq (.reg [O 6 (.alloc (K1 19) (.a [.s [],.s [],.s [],I 0,I 0,I 0,I 0,(.l (K1 2) [] true),(.b false),I 0,I 0,(.b false),(.l (K1 2) [] true),(.b false),I 0,I 0,(.b false),(.l (K1 10) [] true),(.l (K1 6) [] true)])),O 7 (.mov (.c (.b false)))] [7]) (sq (.reg [O 8 (.mov (.c (I (-1))))] []) (sq (sq (.reg [mI 9 0] []) (.block 0 (.loop [0,1,2,6,8,9] qDY))) (sq (sq (.reg [mM 50 8,O 51 (.bin .lss (.t 50) (.c (I 0)))] [50]) (.cond (.t 51) (sq (.reg [O 52 (.agg [.s [],.s [],.s [],I 0,I 0,I 0,I 0,(.l (K1 2) [] true),(.b false),I 0,I 0,(.b false),(.l (K1 2) [] true),(.b false),I 0,I 0,(.b false),(.l (K1 10) [] true),(.l (K1 6) [] true)] []),E (.store (K1 19) (.t 6) (.t 52)),O 7 (.mov (.c (.b false)))] [52]) (.ret)) (.skip))) (sq (.reg [mM 53 0,mM 54 8,O 55 (.Az (K1 19) (.t 53) (.t 54)),O 56 (.load (K1 19) (.t 55)),E (.store (K1 19) (.t 6) (.t 56)),O 7 (.mov (.c (.b true)))] [56,55,8,54,0,53]) (.ret)))))⟩
def qkc:PF:=cF Tryz.f67
def qhM:PF:=cF Tryz.f54
def F950:PF:=cF Tryz.f105
abbrev qrA:PC:=cL F950.body 0
def qjZ:PF:=cF Tryz.f71
def qcG:PF:=cF Tryz.f5
def qhF:PF:=cF Tryz.f18
def qj0:PF:=cF Tryz.f19
def qj1:PF:=cF Tryz.f20
def F66:PF:=cF Tryz.f168
def qfc:PF:=cF Tryz.f80
def qkd:PF:=cF Tryz.f68
