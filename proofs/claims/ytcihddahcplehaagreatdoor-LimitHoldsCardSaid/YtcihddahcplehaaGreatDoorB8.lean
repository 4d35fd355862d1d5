/- Part 8 of the proof: CbC25, CbC25E, CbC29S, CbC51P, CbC25S, CbC25H, CbSimG, CbSimLd, CbDg, CbNm25H. -/
import Derived.Test.YtcihddahcplehaaGreatDoorB2
import Derived.Test.YtcihddahcplehaaGreatDoorB6
import Derived.Test.YtcihddahcplehaaGreatDoorB5
import Derived.ChangeArms
import Derived.OpenShut
import Derived.Deep.Slices
import Derived.WideShapes
import Derived.ProofKit
import Derived.LaidMore
import Derived.Test.YtcihddahcplehaaGreatDoorProg
section
namespace Go.Sim
def qzW:PC :=
 sq (sq (.reg [
 mM 10 9,
 mM 11 0,
 O 12 (.len false (.t 11)),
 O 13 (.bin .lss (.t 10) (.t 12))] [12,11,10]) (
 .cond (.t 13) (.skip)
 (.exit 0))) (
 sq (.block 1 (
 sq (.regD [
 mM 16 0,
 mM 17 9,
 O 18 (.iaddr (K1 19) (.t 16) (.t 17)),
 mF 19 0 18,
 mL 20 19,
 mM 21 1,
 O 22 (.bin .eql (.t 20) (.t 21)),
 mM 23 22,
 OG 24 23 true (.mov (.t 0)),
 OG 25 23 true (.mov (.t 9)),
 OG 26 23 true (.iaddr (K1 19) (.t 24) (.t 25)),
 OG 27 23 true (.faddr 3 (.t 26)),
 OG 28 23 true (.load K0 (.t 27)),
 OG 29 23 true (.mov (.t 2)),
 OG 30 23 true (.bin .leq (.t 28) (.t 29)),
 O 31 (.pick (.t 23) (.t 30) (.c (.b false))),
 mM 32 31,
 OG 33 32 true (.mov (.t 8)),
 OG 34 32 true (.bin .lss (.t 33) (.c (I 0))),
 OG 35 32 true (.mov (.t 34)),
 OG 36 35 false (.mov (.t 0)),
 OG 37 35 false (.mov (.t 9)),
 OG 38 35 false (.iaddr (K1 19) (.t 36) (.t 37)),
 OG 39 35 false (.faddr 3 (.t 38)),
 OG 40 35 false (.load K0 (.t 39)),
 OG 41 35 false (.mov (.t 0)),
 OG 42 35 false (.mov (.t 8)),
 OG 43 35 false (.iaddr (K1 19) (.t 41) (.t 42)),
 OG 44 35 false (.faddr 3 (.t 43)),
 OG 45 35 false (.load K0 (.t 44)),
 OG 46 35 false (.bin .gtr (.t 40) (.t 45)),
 OG 47 32 true (.pick (.t 35) (.c (.b true)) (.t 46)),
 O 48 (.pick (.t 32) (.t 47) (.c (.b false)))] [0,0,3,7,15,0,63,127,255,255,1023,2047,4095,255,16383,32767,65535,131071,262143,524287,1048575,1048575,4194303,8388607,16777215,1048575,1048575,101711871,235929599,504365055,1073741823,2147483647,4294967295] [47,46,45,44,43,42,41,40,39,38,37,36,35,34,33,32,31,30,29,28,27,26,25,24,23,22,21,20,19,18,17,16]) (
 .cond (.t 48) (.reg [
 mM 49 9,
 mM 8 49] [49])
 (.skip)))) (
 .reg [
 mM 14 9,
 O 15 (.bin .add (.t 14) (.c (I 1))),
 mM 9 15] [15,14]))
def qiY:PF:=⟨3,[.c 6 (K1 19),.t 7],
 sq (.reg [
 O 6 (.alloc (K1 19) (.a [.s [],.s [],.s [],I 0,I 0,I 0,I 0,(.l (K1 2) [] true),(.b false),I 0,I 0,(.b false),(.l (K1 2) [] true),(.b false),I 0,I 0,(.b false),(.l (K1 10) [] true),(.l (K1 6) [] true)])),
 O 7 (.mov (.c (.b false)))] [7]) (
 sq (.reg [
 O 8 (.mov (.c (I (-1))))] []) (
 sq (sq (.reg [
 mI 9 0] []) (
 .block 0 (
 .loop [0,1,2,6,8,9] qzW))) (
 sq (sq (.reg [
 mM 50 8,
 O 51 (.bin .lss (.t 50) (.c (I 0)))] [50]) (
 .cond (.t 51) (sq (.reg [
 O 52 (.agg [.s [],.s [],.s [],I 0,I 0,I 0,I 0,(.l (K1 2) [] true),(.b false),I 0,I 0,(.b false),(.l (K1 2) [] true),(.b false),I 0,I 0,(.b false),(.l (K1 10) [] true),(.l (K1 6) [] true)] []),
 E (.store (K1 19) (.t 6) (.t 52)),
 O 7 (.mov (.c (.b false)))] [52]) (
 .ret))
 (.skip))) (
 sq (.reg [
 mM 53 0,
 mM 54 8,
 O 55 (.iaddr (K1 19) (.t 53) (.t 54)),
 O 56 (.load (K1 19) (.t 55)),
 E (.store (K1 19) (.t 6) (.t 56)),
 O 7 (.mov (.c (.b true)))] [56,55,8,54,0,53]) (
 .ret)))))⟩
def qAo:PC :=
 sq (sq (.reg [
 mM 7 6,
 mF 8 18 2,
 mL 9 8,
 O 10 (.len false (.t 9)),
 O 11 (.bin .lss (.t 7) (.t 10))] [10,9,8,7]) (
 .cond (.t 11) (.skip)
 (.exit 0))) (
 sq (.block 1 (
 sq (.reg [
 mF 14 18 2,
 mL 15 14,
 mM 16 6,
 O 17 (.iaddr (K1 7) (.t 15) (.t 16)),
 mF 18 0 17,
 mL 19 18,
 mM 20 1,
 O 21 (.bin .eql (.t 19) (.t 20))] [20,19,18,17,16,15,14]) (
 .cond (.t 21) (sq (.reg [
 mF 22 18 2,
 mL 23 22,
 mM 24 6,
 O 25 (.iaddr (K1 7) (.t 23) (.t 24)),
 O 26 (.load (K1 7) (.t 25)),
 E (.store (K1 7) (.t 4) (.t 26)),
 O 5 (.mov (.c (.b true)))] [26,25,6,24,23,2,22]) (
 .ret))
 (.skip)))) (
 .reg [
 mM 12 6,
 O 13 (.bin .add (.t 12) (.c (I 1))),
 mM 6 13] [13,12]))
def qh3:PF:=⟨2,[.c 4 (K1 7),.t 5],
 sq (.reg [
 O 2 (.box (K1 22) (.t 0)),
 O 4 (.alloc (K1 7) (.a [I 0,I 0,I 0,I 0,.s [],.s [],.s []])),
 O 5 (.mov (.c (.b false)))] [5,0]) (
 sq (sq (.reg [
 mI 6 0] []) (
 .block 0 (
 .loop [1,2,4,6] qAo))) (
 sq (.reg [
 O 27 (.agg [I 0,I 0,I 0,I 0,.s [],.s [],.s []] []),
 E (.store (K1 7) (.t 4) (.t 27)),
 O 5 (.mov (.c (.b false)))] [27]) (
 .ret)))⟩
def qf4:PF:=⟨2,[.t 4],
 sq (.reg [
 O 2 (.box (K1 4) (.t 0)),
 O 4 (.mov (.c (.b false)))] [4,0]) (
 sq (.reg [
 O 5 (.load (K1 4) (.t 2)),
 mM 6 1,
 O 7 (.call 0 950 [.t 5,.t 6]),
 mM 8 1,
 O 9 (.bin .gtr (.t 7) (.t 8)),
 mM 4 9] [9,8,7,1,6,2,5]) (
 .ret))⟩
def qnT:PC :=
 sq (sq (.reg [
 mM 7 6,
 mF 8 3 2,
 mL 9 8,
 O 10 (.len false (.t 9)),
 O 11 (.bin .lss (.t 7) (.t 10)),
 mM 12 11,
 OG 13 12 true (.mov (.t 5)),
 OG 14 12 true (.mov (.t 1)),
 OG 15 12 true (.bin .leq (.t 13) (.t 14)),
 O 16 (.pick (.t 12) (.t 15) (.c (.b false)))] [15,14,13,12,11,10,9,8,7]) (
 .cond (.t 16) (.skip)
 (.exit 0))) (
 sq (.block 1 (
 .reg [
 mM 19 5,
 mF 20 3 2,
 mL 21 20,
 mM 22 6,
 O 23 (.iaddr (K1 4) (.t 21) (.t 22)),
 O 24 (.load (K1 4) (.t 23)),
 mM 25 1,
 mM 26 5,
 O 27 (.bin .sub (.t 25) (.t 26)),
 O 28 (.call 0 950 [.t 24,.t 27]),
 O 29 (.bin .add (.t 19) (.t 28)),
 mM 5 29] [29,28,27,26,25,24,23,22,21,20,19])) (
 .reg [
 mM 17 6,
 O 18 (.bin .add (.t 17) (.c (I 1))),
 mM 6 18] [18,17]))
def qg9:PF:=⟨2,[.t 4],
 sq (.reg [
 O 2 (.box (K1 4) (.t 0)),
 mI 4 0] [4,0]) (
 sq (.reg [
 mI 5 1] []) (
 sq (sq (.reg [
 mI 6 0] []) (
 .block 0 (
 .loop [1,2,5,6] qnT))) (
 sq (.reg [
 mM 30 5,
 mM 4 30] [5,30]) (
 .ret))))⟩
def qix:PF:=⟨3,[.c 6 (K1 19),.t 7],
 sq (.reg [
 O 3 (.box (K1 22) (.t 0)),
 O 6 (.alloc (K1 19) (.a [.s [],.s [],.s [],I 0,I 0,I 0,I 0,(.l (K1 2) [] true),(.b false),I 0,I 0,(.b false),(.l (K1 2) [] true),(.b false),I 0,I 0,(.b false),(.l (K1 10) [] true),(.l (K1 6) [] true)])),
 O 7 (.mov (.c (.b false)))] [7,0]) (
 sq (.reg [
 O 11 (.load (K1 22) (.t 3)),
 mM 12 1,
 O 13 (.call 0 683 [.t 11,.t 12]),
 mM 10 13,
 mX 14 10 0,
 mX 15 10 1,
 O 8 (.alloc (K1 7) (.a [I 0,I 0,I 0,I 0,.s [],.s [],.s []])),
 E (.store (K1 7) (.t 8) (.t 14)),
 mM 9 15] [15,14,10,13,1,12,11]) (
 sq (sq (.reg [
 mM 16 9,
 O 17 (.un .not (.t 16))] [9,16]) (
 .cond (.t 17) (sq (.reg [
 O 18 (.agg [.s [],.s [],.s [],I 0,I 0,I 0,I 0,(.l (K1 2) [] true),(.b false),I 0,I 0,(.b false),(.l (K1 2) [] true),(.b false),I 0,I 0,(.b false),(.l (K1 10) [] true),(.l (K1 6) [] true)] []),
 E (.store (K1 19) (.t 6) (.t 18)),
 O 7 (.mov (.c (.b false)))] [18]) (
 .ret))
 (.skip))) (
 sq (.reg [
 mF 19 17 3,
 mL 20 19,
 mF 21 5 8,
 mL 22 21,
 mM 23 2,
 O 24 (.call 0 603 [.t 20,.t 22,.t 23]),
 mX 25 24 0,
 mX 26 24 1,
 E (.store (K1 19) (.t 6) (.t 25)),
 mM 7 26] [26,25,24,2,23,22,8,21,20,3,19]) (
 .ret))))⟩
def qnu:PC :=
 sq (sq (.reg [
 mM 51 3,
 mF 52 17 1,
 mL 53 52,
 O 54 (.len false (.t 53)),
 O 55 (.bin .lss (.t 51) (.t 54))] [54,53,52,51]) (
 .cond (.t 55) (.skip)
 (.exit 0))) (
 sq (.block 1 (
 sq (.reg [
 mF 58 17 1,
 mL 59 58,
 mM 60 3,
 O 61 (.iaddr (K1 19) (.t 59) (.t 60)),
 O 62 (.load (K1 19) (.t 61)),
 O 63 (.call 0 1095 [.t 62])] [62,61,60,59,58]) (
 .cond (.t 63) (sq (.reg [
 O 2 (.mov (.c (.b true)))] []) (
 .ret))
 (.skip)))) (
 .reg [
 mM 56 3,
 O 57 (.bin .add (.t 56) (.c (I 1))),
 mM 3 57] [57,56]))
def qlO:PC :=
 sq (sq (.reg [
 mM 64 4,
 mF 65 19 1,
 mL 66 65,
 O 67 (.len false (.t 66)),
 O 68 (.bin .lss (.t 64) (.t 67))] [67,66,65,64]) (
 .cond (.t 68) (.skip)
 (.exit 2))) (
 sq (.block 3 (
 sq (.reg [
 mF 71 19 1,
 mL 72 71,
 mM 73 4,
 O 74 (.iaddr (K1 10) (.t 72) (.t 73)),
 O 75 (.load (K1 10) (.t 74)),
 O 76 (.call 0 1096 [.t 75])] [75,74,73,72,71]) (
 .cond (.t 76) (sq (.reg [
 O 2 (.mov (.c (.b true)))] []) (
 .ret))
 (.skip)))) (
 .reg [
 mM 69 4,
 O 70 (.bin .add (.t 69) (.c (I 1))),
 mM 4 70] [70,69]))
def qms:PC :=
 sq (sq (.reg [
 mM 77 5,
 mF 78 1 1,
 mL 79 78,
 O 80 (.len false (.t 79)),
 O 81 (.bin .lss (.t 77) (.t 80))] [80,79,78,77]) (
 .cond (.t 81) (.skip)
 (.exit 4))) (
 sq (.block 5 (
 sq (.reg [
 mF 84 1 1,
 mL 85 84,
 mM 86 5,
 O 87 (.iaddr (K1 3) (.t 85) (.t 86)),
 mF 88 2 87,
 mL 89 88,
 O 90 (.len false (.t 89)),
 O 91 (.bin .gtr (.t 90) (.c (I 400))),
 mM 92 91,
 OG 93 92 false (.faddr 1 (.t 1)),
 OG 94 92 false (.load K0 (.t 93)),
 OG 95 92 false (.mov (.t 5)),
 OG 96 92 false (.iaddr (K1 3) (.t 94) (.t 95)),
 OG 97 92 false (.faddr 1 (.t 96)),
 OG 98 92 false (.load K0 (.t 97)),
 OG 99 92 false (.len false (.t 98)),
 OG 100 92 false (.bin .gtr (.t 99) (.c (I 20))),
 O 101 (.pick (.t 92) (.c (.b true)) (.t 100))] [100,99,98,97,96,95,94,93,92,91,90,89,88,87,86,85,84]) (
 .cond (.t 101) (sq (.reg [
 O 2 (.mov (.c (.b true)))] []) (
 .ret))
 (.skip)))) (
 .reg [
 mM 82 5,
 O 83 (.bin .add (.t 82) (.c (I 1))),
 mM 5 83] [83,82]))
def qha:PF:=⟨1,[.t 2],
 sq (.reg [
 O 1 (.box (K1 22) (.t 0)),
 O 2 (.mov (.c (.b false)))] [2,0]) (
 sq (sq (.reg [
 mF 6 0 1,
 mL 7 6,
 O 8 (.len false (.t 7)),
 O 9 (.bin .gtr (.t 8) (.c (I 20))),
 mM 10 9,
 OG 11 10 false (.faddr 1 (.t 1)),
 OG 12 10 false (.load K0 (.t 11)),
 OG 13 10 false (.len false (.t 12)),
 OG 14 10 false (.bin .gtr (.t 13) (.c (I 10))),
 O 15 (.pick (.t 10) (.c (.b true)) (.t 14)),
 mM 16 15,
 OG 17 16 false (.faddr 2 (.t 1)),
 OG 18 16 false (.load K0 (.t 17)),
 OG 19 16 false (.len false (.t 18)),
 OG 20 16 false (.bin .gtr (.t 19) (.c (I 60))),
 O 21 (.pick (.t 16) (.c (.b true)) (.t 20)),
 mM 22 21,
 OG 23 22 false (.faddr 17 (.t 1)),
 OG 24 22 false (.load K0 (.t 23)),
 OG 25 22 false (.len false (.t 24)),
 OG 26 22 false (.bin .gtr (.t 25) (.c (I 20))),
 O 27 (.pick (.t 22) (.c (.b true)) (.t 26)),
 mM 28 27,
 OG 29 28 false (.faddr 18 (.t 1)),
 OG 30 28 false (.load K0 (.t 29)),
 OG 31 28 false (.len false (.t 30)),
 OG 32 28 false (.bin .gtr (.t 31) (.c (I 40))),
 O 33 (.pick (.t 28) (.c (.b true)) (.t 32)),
 mM 34 33,
 OG 35 34 false (.faddr 19 (.t 1)),
 OG 36 34 false (.load K0 (.t 35)),
 OG 37 34 false (.len false (.t 36)),
 OG 38 34 false (.bin .gtr (.t 37) (.c (I 150))),
 O 39 (.pick (.t 34) (.c (.b true)) (.t 38)),
 mM 40 39,
 OG 41 40 false (.faddr 20 (.t 1)),
 OG 42 40 false (.load K0 (.t 41)),
 OG 43 40 false (.call 0 1094 [.t 42]),
 O 44 (.pick (.t 40) (.c (.b true)) (.t 43)),
 mM 45 44,
 OG 46 45 false (.faddr 21 (.t 1)),
 OG 47 45 false (.load K0 (.t 46)),
 OG 48 45 false (.len false (.t 47)),
 OG 49 45 false (.bin .gtr (.t 48) (.c (I 100))),
 O 50 (.pick (.t 45) (.c (.b true)) (.t 49))] [49,48,47,46,45,44,43,42,41,40,39,38,37,36,35,34,33,32,31,30,29,28,27,26,25,24,23,22,21,20,19,18,17,16,15,14,13,12,11,10,9,8,7,6]) (
 .cond (.t 50) (sq (.reg [
 O 2 (.mov (.c (.b true)))] []) (
 .ret))
 (.skip))) (
 sq (sq (.reg [
 mI 3 0] []) (
 .block 0 (
 .loop [1,3] qnu))) (
 sq (sq (.reg [
 mI 4 0] []) (
 .block 2 (
 .loop [1,4] qlO))) (
 sq (sq (.reg [
 mI 5 0] []) (
 .block 4 (
 .loop [1,5] qms))) (
 sq (.reg [
 O 2 (.mov (.c (.b false)))] []) (
 .ret))))))⟩
def qnG:PC :=
 sq (sq (.reg [
 mM 7 3,
 mM 8 0,
 O 9 (.len false (.t 8)),
 O 10 (.bin .lss (.t 7) (.t 9))] [9,8,7]) (
 .cond (.t 10) (.skip)
 (.exit 0))) (
 sq (.block 1 (
 sq (.reg [
 mM 13 0,
 mM 14 3,
 O 15 (.iaddr (K1 6) (.t 13) (.t 14)),
 mF 16 5 15,
 mL 17 16,
 O 18 (.len true (.t 17)),
 O 19 (.bin .gtr (.t 18) (.c (I 200)))] [18,17,16,15,14,13]) (
 .cond (.t 19) (sq (.reg [
 O 2 (.mov (.c (.b true)))] []) (
 .ret))
 (.skip)))) (
 .reg [
 mM 11 3,
 O 12 (.bin .add (.t 11) (.c (I 1))),
 mM 3 12] [12,11]))
def qg4:PF:=⟨1,[.t 2],
 sq (.reg [
 O 2 (.mov (.c (.b false)))] [2]) (
 sq (sq (.reg [
 mM 4 0,
 O 5 (.len false (.t 4)),
 O 6 (.bin .gtr (.t 5) (.c (I 100)))] [5,4]) (
 .cond (.t 6) (sq (.reg [
 O 2 (.mov (.c (.b true)))] []) (
 .ret))
 (.skip))) (
 sq (sq (.reg [
 mI 3 0] []) (
 .block 0 (
 .loop [0,3] qnG))) (
 sq (.reg [
 O 2 (.mov (.c (.b false)))] []) (
 .ret))))⟩
def qmn:PC :=
 sq (sq (.reg [
 mM 47 3,
 mF 48 17 1,
 mL 49 48,
 O 50 (.len false (.t 49)),
 O 51 (.bin .lss (.t 47) (.t 50))] [50,49,48,47]) (
 .cond (.t 51) (.skip)
 (.exit 0))) (
 sq (.block 1 (
 sq (.reg [
 mF 54 17 1,
 mL 55 54,
 mM 56 3,
 O 57 (.iaddr (K1 10) (.t 55) (.t 56)),
 mF 58 0 57,
 mL 59 58,
 O 60 (.len true (.t 59)),
 O 61 (.bin .gtr (.t 60) (.c (I 100))),
 mM 62 61,
 OG 63 62 false (.faddr 17 (.t 1)),
 OG 64 62 false (.load K0 (.t 63)),
 OG 65 62 false (.mov (.t 3)),
 OG 66 62 false (.iaddr (K1 10) (.t 64) (.t 65)),
 OG 67 62 false (.faddr 2 (.t 66)),
 OG 68 62 false (.load (K1 4) (.t 67)),
 OG 69 62 false (.call 0 919 [.t 68,(.c (I 100))]),
 O 70 (.pick (.t 62) (.c (.b true)) (.t 69)),
 mM 71 70,
 OG 72 71 false (.faddr 17 (.t 1)),
 OG 73 71 false (.load K0 (.t 72)),
 OG 74 71 false (.mov (.t 3)),
 OG 75 71 false (.iaddr (K1 10) (.t 73) (.t 74)),
 OG 76 71 false (.faddr 6 (.t 75)),
 OG 77 71 false (.load (K1 4) (.t 76)),
 OG 78 71 false (.call 0 919 [.t 77,(.c (I 100))]),
 O 79 (.pick (.t 71) (.c (.b true)) (.t 78))] [78,77,76,75,74,73,72,71,70,69,68,67,66,65,64,63,62,61,60,59,58,57,56,55,54]) (
 .cond (.t 79) (sq (.reg [
 O 2 (.mov (.c (.b true)))] []) (
 .ret))
 (.skip)))) (
 .reg [
 mM 52 3,
 O 53 (.bin .add (.t 52) (.c (I 1))),
 mM 3 53] [53,52]))
def qlN:PC :=
 sq (sq (.reg [
 mM 80 4,
 mF 81 18 1,
 mL 82 81,
 O 83 (.len false (.t 82)),
 O 84 (.bin .lss (.t 80) (.t 83))] [83,82,81,80]) (
 .cond (.t 84) (.skip)
 (.exit 2))) (
 sq (.block 3 (
 sq (.reg [
 mF 87 18 1,
 mL 88 87,
 mM 89 4,
 O 90 (.iaddr (K1 6) (.t 88) (.t 89)),
 mF 91 0 90,
 mL 92 91,
 O 93 (.len true (.t 92)),
 O 94 (.bin .gtr (.t 93) (.c (I 100))),
 mM 95 94,
 OG 96 95 false (.faddr 18 (.t 1)),
 OG 97 95 false (.load K0 (.t 96)),
 OG 98 95 false (.mov (.t 4)),
 OG 99 95 false (.iaddr (K1 6) (.t 97) (.t 98)),
 OG 100 95 false (.faddr 2 (.t 99)),
 OG 101 95 false (.load (K1 4) (.t 100)),
 OG 102 95 false (.call 0 919 [.t 101,(.c (I 100))]),
 O 103 (.pick (.t 95) (.c (.b true)) (.t 102))] [102,101,100,99,98,97,96,95,94,93,92,91,90,89,88,87]) (
 .cond (.t 103) (sq (.reg [
 O 2 (.mov (.c (.b true)))] []) (
 .ret))
 (.skip)))) (
 .reg [
 mM 85 4,
 O 86 (.bin .add (.t 85) (.c (I 1))),
 mM 4 86] [86,85]))
def qgY:PF:=⟨1,[.t 2],
 sq (.reg [
 O 1 (.box (K1 19) (.t 0)),
 O 2 (.mov (.c (.b false)))] [2,0]) (
 sq (sq (.reg [
 mF 5 0 1,
 mL 6 5,
 O 7 (.len true (.t 6)),
 O 8 (.bin .gtr (.t 7) (.c (I 100))),
 mM 9 8,
 OG 10 9 false (.faddr 1 (.t 1)),
 OG 11 9 false (.load K0 (.t 10)),
 OG 12 9 false (.len true (.t 11)),
 OG 13 9 false (.bin .gtr (.t 12) (.c (I 100))),
 O 14 (.pick (.t 9) (.c (.b true)) (.t 13)),
 mM 15 14,
 OG 16 15 false (.faddr 2 (.t 1)),
 OG 17 15 false (.load K0 (.t 16)),
 OG 18 15 false (.len true (.t 17)),
 OG 19 15 false (.bin .gtr (.t 18) (.c (I 100))),
 O 20 (.pick (.t 15) (.c (.b true)) (.t 19)),
 mM 21 20,
 OG 22 21 false (.faddr 7 (.t 1)),
 OG 23 21 false (.faddr 0 (.t 22)),
 OG 24 21 false (.load K0 (.t 23)),
 OG 25 21 false (.len false (.t 24)),
 OG 26 21 false (.bin .gtr (.t 25) (.c (I 20))),
 O 27 (.pick (.t 21) (.c (.b true)) (.t 26)),
 mM 28 27,
 OG 29 28 false (.faddr 12 (.t 1)),
 OG 30 28 false (.faddr 0 (.t 29)),
 OG 31 28 false (.load K0 (.t 30)),
 OG 32 28 false (.len false (.t 31)),
 OG 33 28 false (.bin .gtr (.t 32) (.c (I 20))),
 O 34 (.pick (.t 28) (.c (.b true)) (.t 33)),
 mM 35 34,
 OG 36 35 false (.faddr 17 (.t 1)),
 OG 37 35 false (.load K0 (.t 36)),
 OG 38 35 false (.len false (.t 37)),
 OG 39 35 false (.bin .gtr (.t 38) (.c (I 10))),
 O 40 (.pick (.t 35) (.c (.b true)) (.t 39)),
 mM 41 40,
 OG 42 41 false (.faddr 18 (.t 1)),
 OG 43 41 false (.load K0 (.t 42)),
 OG 44 41 false (.len false (.t 43)),
 OG 45 41 false (.bin .gtr (.t 44) (.c (I 10))),
 O 46 (.pick (.t 41) (.c (.b true)) (.t 45))] [45,44,43,42,41,40,39,38,37,36,35,34,33,32,31,30,29,28,27,26,25,24,23,22,21,20,19,18,17,16,15,14,13,12,11,10,9,8,7,6,5]) (
 .cond (.t 46) (sq (.reg [
 O 2 (.mov (.c (.b true)))] []) (
 .ret))
 (.skip))) (
 sq (sq (.reg [
 mI 3 0] []) (
 .block 0 (
 .loop [1,3] qmn))) (
 sq (sq (.reg [
 mI 4 0] []) (
 .block 2 (
 .loop [1,4] qlN))) (
 sq (.reg [
 O 2 (.mov (.c (.b false)))] []) (
 .ret)))))⟩
def qlI:PC :=
 sq (sq (.reg [
 mM 20 3,
 mF 21 8 1,
 mL 22 21,
 O 23 (.len false (.t 22)),
 O 24 (.bin .lss (.t 20) (.t 23))] [23,22,21,20]) (
 .cond (.t 24) (.skip)
 (.exit 0))) (
 sq (.block 1 (
 sq (.reg [
 mF 27 8 1,
 mL 28 27,
 mM 29 3,
 O 30 (.iaddr (K1 3) (.t 28) (.t 29)),
 mF 31 2 30,
 mL 32 31,
 O 33 (.len true (.t 32)),
 O 34 (.bin .gtr (.t 33) (.c (I 100)))] [33,32,31,30,29,28,27]) (
 .cond (.t 34) (sq (.reg [
 O 2 (.mov (.c (.b true)))] []) (
 .ret))
 (.skip)))) (
 .reg [
 mM 25 3,
 O 26 (.bin .add (.t 25) (.c (I 1))),
 mM 3 26] [26,25]))
def qgU:PF:=⟨1,[.t 2],
 sq (.reg [
 O 1 (.box (K1 10) (.t 0)),
 O 2 (.mov (.c (.b false)))] [2,0]) (
 sq (sq (.reg [
 mF 4 8 1,
 mL 5 4,
 O 6 (.len false (.t 5)),
 O 7 (.bin .gtr (.t 6) (.c (I 30))),
 mM 8 7,
 OG 9 8 false (.faddr 6 (.t 1)),
 OG 10 8 false (.load K0 (.t 9)),
 OG 11 8 false (.len true (.t 10)),
 OG 12 8 false (.bin .gtr (.t 11) (.c (I 1000))),
 O 13 (.pick (.t 8) (.c (.b true)) (.t 12)),
 mM 14 13,
 OG 15 14 false (.faddr 7 (.t 1)),
 OG 16 14 false (.load K0 (.t 15)),
 OG 17 14 false (.len true (.t 16)),
 OG 18 14 false (.bin .gtr (.t 17) (.c (I 1000))),
 O 19 (.pick (.t 14) (.c (.b true)) (.t 18))] [18,17,16,15,14,13,12,11,10,9,8,7,6,5,4]) (
 .cond (.t 19) (sq (.reg [
 O 2 (.mov (.c (.b true)))] []) (
 .ret))
 (.skip))) (
 sq (sq (.reg [
 mI 3 0] []) (
 .block 0 (
 .loop [1,3] qlI))) (
 sq (.reg [
 O 2 (.mov (.c (.b false)))] []) (
 .ret))))⟩
end Go.Sim
end
section
namespace Go.Sim
def qgM:PF:=⟨1,[.t 2],
 sq (.reg [
 O 2 (.mov (.c (.b false)))] [2]) (
 sq (.reg [
 mM 3 0,
 O 4 (.bin .geq (.t 3) (.c (I 0))),
 mM 5 4,
 OG 6 5 true (.mov (.t 0)),
 OG 7 5 true (.bin .leq (.t 6) (.c (I 73048))),
 O 8 (.pick (.t 5) (.t 7) (.c (.b false))),
 mM 2 8] [8,7,6,5,4,0,3]) (
 .ret))⟩
def qjM:PF:=⟨3,[.t 6],
 sq (.reg [
 O 3 (.box (K1 22) (.t 0)),
 O 6 (.mov (.c (.b false)))] [6,0]) (
 sq (.reg [
 O 10 (.load (K1 22) (.t 3)),
 mM 11 1,
 O 12 (.call 0 683 [.t 10,.t 11]),
 mM 9 12,
 mX 13 9 0,
 mX 14 9 1,
 O 7 (.alloc (K1 7) (.a [I 0,I 0,I 0,I 0,.s [],.s [],.s []])),
 E (.store (K1 7) (.t 7) (.t 13)),
 mM 8 14] [14,13,9,12,1,11,3,10]) (
 sq (.reg [
 mM 15 8,
 mM 16 15,
 OG 17 16 true (.faddr 1 (.t 7)),
 OG 18 16 true (.load K0 (.t 17)),
 OG 19 16 true (.mov (.t 2)),
 OG 20 16 true (.bin .leq (.t 18) (.t 19)),
 O 21 (.pick (.t 16) (.t 20) (.c (.b false))),
 mM 22 21,
 OG 23 22 true (.faddr 2 (.t 7)),
 OG 24 22 true (.load K0 (.t 23)),
 OG 25 22 true (.bin .eql (.t 24) (.c (I 0))),
 OG 26 22 true (.mov (.t 25)),
 OG 27 26 false (.faddr 2 (.t 7)),
 OG 28 26 false (.load K0 (.t 27)),
 OG 29 26 false (.mov (.t 2)),
 OG 30 26 false (.bin .gtr (.t 28) (.t 29)),
 OG 31 22 true (.pick (.t 26) (.c (.b true)) (.t 30)),
 O 32 (.pick (.t 22) (.t 31) (.c (.b false))),
 mM 6 32] [32,31,30,29,28,27,26,25,24,23,22,21,20,2,19,18,7,17,16,8,15]) (
 .ret)))⟩
end Go.Sim
end
section
namespace Go.Sim
end Go.Sim
end
section
namespace Go.Sim
def qgv:PF:=⟨1,[.t 2],
 sq (.reg [
   O 2 (.mov (.c (.b false)))] [2]) (
 sq (.reg [
   mM 3 0,
   O 4 (.len true (.t 3)),
   O 5 (.bin .geq (.t 4) (.c (I 1))),
   mM 6 5,
   OG 7 6 true (.mov (.t 0)),
   OG 8 6 true (.call 0 685 [.t 7,(.c (I 48)),(.c (.i .u8 33))]),
   O 9 (.pick (.t 6) (.t 8) (.c (.b false))),
   mM 2 9] [9,8,7,6,5,4,0,3]) (
 .ret))⟩
def qje:PC :=
 sq (sq (.reg [
    mM 68 3,
    mF 69 8 1,
    mL 70 69,
    O 71 (.len false (.t 70)),
    O 72 (.bin .lss (.t 68) (.t 71))] [71,70,69,68]) (
  .cond (.t 72) (.skip)
   (.exit 0))) (
 sq (.block 1 (
   sq (.reg [
     mF 75 8 1,
     mL 76 75,
     mM 77 3,
     O 78 (.iaddr (K1 3) (.t 76) (.t 77)),
     O 79 (.load (K1 3) (.t 78)),
     O 80 (.call 0 770 [.t 79]),
     mM 4 80] [80,79,78,77,76,75]) (
   sq (.reg [
     mM 81 4,
     O 82 (.bin .neq (.t 81) (.c (I 0)))] [81]) (
   .cond (.t 82) (sq (.reg [
      mM 83 4,
      mM 2 83] [4,83]) (
    .ret))
    (.skip))))) (
 .reg [
  mM 73 3,
  O 74 (.bin .add (.t 73) (.c (I 1))),
  mM 3 74] [74,73]))
def qlt:PC :=
 sq (sq (.reg [
    mM 87 6,
    mM 88 5,
    O 89 (.len false (.t 88)),
    O 90 (.bin .lss (.t 87) (.t 89))] [89,88,87]) (
  .cond (.t 90) (.skip)
   (.exit 2))) (
 sq (.block 3 (
   sq (.reg [
     mM 93 5,
     mM 94 6,
     O 95 (.iaddr (K1 2) (.t 93) (.t 94)),
     mF 96 1 95,
     mL 97 96,
     O 98 (.bin .neq (.t 97) (.c (I 0)))] [97,96,95,94,93]) (
   .cond (.t 98) (sq (.reg [
      mI 2 15] []) (
    .ret))
    (.skip)))) (
 .reg [
  mM 91 6,
  O 92 (.bin .add (.t 91) (.c (I 1))),
  mM 6 92] [92,91]))
def qcg:PF:=⟨1,[.t 2],
 sq (.reg [
   O 1 (.box (K1 10) (.t 0)),
   mI 2 0] [2,0]) (
 sq (sq (.reg [
    mF 7 6 1,
    mL 8 7,
    O 9 (.call 0 607 [.t 8]),
    O 10 (.un .not (.t 9))] [9,8,7]) (
  .cond (.t 10) (sq (.reg [
     mI 2 4] []) (
   .ret))
   (.skip))) (
 sq (sq (.reg [
    mF 11 7 1,
    mL 12 11,
    O 13 (.call 0 685 [.t 12,(.c (I 64)),(.c (.i .u8 32))]),
    O 14 (.un .not (.t 13)),
    mM 15 14,
    OG 16 15 false (.faddr 1 (.t 1)),
    OG 17 15 false (.load K0 (.t 16)),
    OG 18 15 false (.call 0 544 [.t 17]),
    OG 19 15 false (.un .not (.t 18)),
    O 20 (.pick (.t 15) (.c (.b true)) (.t 19)),
    mM 21 20,
    OG 22 21 false (.faddr 2 (.t 1)),
    OG 23 21 false (.load K0 (.t 22)),
    OG 24 21 false (.call 0 544 [.t 23]),
    OG 25 21 false (.un .not (.t 24)),
    O 26 (.pick (.t 21) (.c (.b true)) (.t 25)),
    mM 27 26,
    OG 28 27 false (.faddr 3 (.t 1)),
    OG 29 27 false (.load K0 (.t 28)),
    OG 30 27 false (.bin .lss (.t 29) (.c (I 1))),
    O 31 (.pick (.t 27) (.c (.b true)) (.t 30)),
    mM 32 31,
    OG 33 32 false (.faddr 3 (.t 1)),
    OG 34 32 false (.load K0 (.t 33)),
    OG 35 32 false (.bin .gtr (.t 34) (.c (I 14))),
    O 36 (.pick (.t 32) (.c (.b true)) (.t 35)),
    mM 37 36,
    OG 38 37 false (.faddr 4 (.t 1)),
    OG 39 37 false (.load K0 (.t 38)),
    OG 40 37 false (.bin .lss (.t 39) (.c (I 0))),
    O 41 (.pick (.t 37) (.c (.b true)) (.t 40)),
    mM 42 41,
    OG 43 42 false (.faddr 4 (.t 1)),
    OG 44 42 false (.load K0 (.t 43)),
    OG 45 42 false (.bin .gtr (.t 44) (.c (I 3))),
    O 46 (.pick (.t 42) (.c (.b true)) (.t 45)),
    mM 47 46,
    OG 48 47 false (.faddr 5 (.t 1)),
    OG 49 47 false (.load K0 (.t 48)),
    OG 50 47 false (.bin .neq (.t 49) (.c (I 0))),
    OG 51 47 false (.mov (.t 50)),
    OG 52 51 true (.faddr 5 (.t 1)),
    OG 53 51 true (.load K0 (.t 52)),
    OG 54 51 true (.call 0 544 [.t 53]),
    OG 55 51 true (.un .not (.t 54)),
    OG 56 47 false (.pick (.t 51) (.t 55) (.c (.b false))),
    O 57 (.pick (.t 47) (.c (.b true)) (.t 56))] [56,55,54,53,52,51,50,49,48,47,46,45,44,43,42,41,40,39,38,37,36,35,34,33,32,31,30,29,28,27,26,25,24,23,22,21,20,19,18,17,16,15,14,13,12,11]) (
  .cond (.t 57) (sq (.reg [
     mI 2 1] []) (
   .ret))
   (.skip))) (
 sq (sq (.reg [
    mF 58 8 1,
    mL 59 58,
    O 60 (.len false (.t 59)),
    O 61 (.bin .lss (.t 60) (.c (I 2))),
    mM 62 61,
    OG 63 62 false (.faddr 8 (.t 1)),
    OG 64 62 false (.load K0 (.t 63)),
    OG 65 62 false (.len false (.t 64)),
    OG 66 62 false (.bin .gtr (.t 65) (.c (I 12))),
    O 67 (.pick (.t 62) (.c (.b true)) (.t 66))] [66,65,64,63,62,61,60,59,58]) (
  .cond (.t 67) (sq (.reg [
     mI 2 5] []) (
   .ret))
   (.skip))) (
 sq (sq (.reg [
    mI 3 0] []) (
  .block 0 (
   .loop [1,3] qje))) (
 sq (.reg [
   mF 84 8 1,
   mL 85 84,
   O 86 (.call 0 771 [.t 85]),
   mM 5 86] [86,85,1,84]) (
 sq (sq (.reg [
    mI 6 0] []) (
  .block 2 (
   .loop [5,6] qlt))) (
 sq (.reg [
   mI 2 0] []) (
 .ret))))))))⟩
def qmt:PC :=
 sq (sq (.reg [
    mM 12 7,
    mM 13 0,
    O 14 (.len true (.t 13)),
    O 15 (.bin .lss (.t 12) (.t 14))] [14,13,12]) (
  .cond (.t 15) (.skip)
   (.exit 0))) (
 sq (.block 1 (
   sq (.reg [
     mM 18 0,
     mM 19 7,
     O 20 (.idxS (.t 18) (.t 19)),
     mM 21 2,
     O 22 (.bin .lss (.t 20) (.t 21)),
     mM 23 22,
     OG 24 23 false (.mov (.t 0)),
     OG 25 23 false (.mov (.t 7)),
     OG 26 23 false (.idxS (.t 24) (.t 25)),
     OG 27 23 false (.bin .gtr (.t 26) (.c (.i .u8 126))),
     O 28 (.pick (.t 23) (.c (.b true)) (.t 27))] [27,26,25,24,23,22,21,20,19,18]) (
   .cond (.t 28) (sq (.reg [
      O 6 (.mov (.c (.b false)))] []) (
    .ret))
    (.skip)))) (
 .reg [
  mM 16 7,
  O 17 (.bin .add (.t 16) (.c (I 1))),
  mM 7 17] [17,16]))
def qgo:PF:=⟨3,[.t 6],
 sq (.reg [
   O 6 (.mov (.c (.b false)))] [6]) (
 sq (sq (.reg [
    mM 8 0,
    O 9 (.len true (.t 8)),
    mM 10 1,
    O 11 (.bin .gtr (.t 9) (.t 10))] [1,10,9,8]) (
  .cond (.t 11) (sq (.reg [
     O 6 (.mov (.c (.b false)))] []) (
   .ret))
   (.skip))) (
 sq (sq (.reg [
    mI 7 0] []) (
  .block 0 (
   .loop [0,2,7] qmt))) (
 sq (.reg [
   O 6 (.mov (.c (.b true)))] []) (
 .ret))))⟩
def qiN:PF:=⟨1,[.t 2],
 sq (.reg [
   O 1 (.box (K1 3) (.t 0)),
   mI 2 0] [2,0]) (
 sq (sq (.reg [
    mF 3 0 1,
    mL 4 3,
    O 5 (.bin .lss (.t 4) (.c (I 1))),
    mM 6 5,
    OG 7 6 false (.faddr 1 (.t 1)),
    OG 8 6 false (.load K0 (.t 7)),
    OG 9 6 false (.bin .eql (.t 8) (.c (I 0))),
    O 10 (.pick (.t 6) (.c (.b true)) (.t 9)),
    mM 11 10,
    OG 12 11 false (.faddr 1 (.t 1)),
    OG 13 11 false (.load K0 (.t 12)),
    OG 14 11 false (.bin .lss (.t 13) (.c (I (-1000000000000)))),
    O 15 (.pick (.t 11) (.c (.b true)) (.t 14)),
    mM 16 15,
    OG 17 16 false (.faddr 1 (.t 1)),
    OG 18 16 false (.load K0 (.t 17)),
    OG 19 16 false (.bin .gtr (.t 18) (.c (I 1000000000000))),
    O 20 (.pick (.t 16) (.c (.b true)) (.t 19))] [19,18,17,16,15,14,13,12,11,10,9,8,7,6,5,4,3]) (
  .cond (.t 20) (sq (.reg [
     mI 2 1] []) (
   .ret))
   (.skip))) (
 sq (sq (.reg [
    mF 21 2 1,
    mL 22 21,
    O 23 (.call 0 861 [.t 22]),
    O 24 (.un .not (.t 23))] [23,22,1,21]) (
  .cond (.t 24) (sq (.reg [
     mI 2 14] []) (
   .ret))
   (.skip))) (
 sq (.reg [
   mI 2 0] []) (
 .ret))))⟩
def qiB:PC :=
 sq (sq (.regD [
    mM 14 6,
    mM 15 3,
    O 16 (.len false (.t 15)),
    O 17 (.bin .lss (.t 14) (.t 16)),
    mM 18 17,
    OG 19 18 true (.mov (.t 3)),
    OG 20 18 true (.mov (.t 6)),
    OG 21 18 true (.iaddr (K1 2) (.t 19) (.t 20)),
    OG 22 18 true (.faddr 0 (.t 21)),
    OG 23 18 true (.load K0 (.t 22)),
    OG 24 18 true (.mov (.t 0)),
    OG 25 18 true (.mov (.t 4)),
    OG 26 18 true (.iaddr (K1 3) (.t 24) (.t 25)),
    OG 27 18 true (.faddr 2 (.t 26)),
    OG 28 18 true (.load K0 (.t 27)),
    OG 29 18 true (.bin .lss (.t 23) (.t 28)),
    O 30 (.pick (.t 18) (.t 29) (.c (.b false)))] [0,0,2,7,15,31,31,127,255,511,31,31,3103,7199,15391,32767,65535] [29,28,27,26,25,24,23,22,21,20,19,18,17,16,15,14]) (
  .cond (.t 30) (.skip)
   (.exit 2))) (
 .block 3 (
  .reg [
   mM 31 6,
   O 32 (.bin .add (.t 31) (.c (I 1))),
   mM 6 32] [32,31]))
def qia:PC :=
 sq (sq (.reg [
    mM 8 4,
    mM 9 0,
    O 10 (.len false (.t 9)),
    O 11 (.bin .lss (.t 8) (.t 10))] [10,9,8]) (
  .cond (.t 11) (.skip)
   (.exit 0))) (
 sq (.block 1 (
   sq (.reg [
     O 5 (.mov (.c (.l (K1 2) [] true)))] []) (
   sq (.reg [
     mI 6 0] []) (
   sq (.block 2 (
     .loop [0,3,4,5,6] qiB)) (
   sq (.reg [
     mM 33 5,
     mM 34 3,
     mM 35 6,
     O 36 (.sl (K1 2) (.t 34) none (some (.t 35)) none),
     O 37 (.app (K1 2) 24 (.t 33) (.t 36)),
     mM 5 37] [37,36,35,34,33]) (
   sq (.reg [
     mM 38 0,
     mM 39 4,
     O 40 (.iaddr (K1 3) (.t 38) (.t 39)),
     mF 41 1 40,
     mL 42 41,
     mM 7 42] [42,41,40,39,38]) (
   sq (sq (.regD [
      mM 43 6,
      mM 44 3,
      O 45 (.len false (.t 44)),
      O 46 (.bin .lss (.t 43) (.t 45)),
      mM 47 46,
      OG 48 47 true (.mov (.t 3)),
      OG 49 47 true (.mov (.t 6)),
      OG 50 47 true (.iaddr (K1 2) (.t 48) (.t 49)),
      OG 51 47 true (.faddr 0 (.t 50)),
      OG 52 47 true (.load K0 (.t 51)),
      OG 53 47 true (.mov (.t 0)),
      OG 54 47 true (.mov (.t 4)),
      OG 55 47 true (.iaddr (K1 3) (.t 53) (.t 54)),
      OG 56 47 true (.faddr 2 (.t 55)),
      OG 57 47 true (.load K0 (.t 56)),
      OG 58 47 true (.bin .eql (.t 52) (.t 57)),
      O 59 (.pick (.t 47) (.t 58) (.c (.b false)))] [0,0,2,7,15,31,31,127,255,511,31,31,3103,7199,15391,32767,65535] [58,57,56,55,54,53,52,51,50,49,48,47,46,45,44,43]) (
    .cond (.t 59) (sq (.reg [
       mM 60 7,
       mM 61 3,
       mM 62 6,
       O 63 (.iaddr (K1 2) (.t 61) (.t 62)),
       mF 64 1 63,
       mL 65 64,
       O 66 (.bin .add (.t 60) (.t 65)),
       mM 7 66] [66,65,64,63,62,61,60]) (
     .reg [
      mM 67 6,
      O 68 (.bin .add (.t 67) (.c (I 1))),
      mM 6 68] [68,67]))
     (.skip))) (
   sq (.reg [
     mM 69 5,
     mM 70 0,
     mM 71 4,
     O 72 (.iaddr (K1 3) (.t 70) (.t 71)),
     mF 73 2 72,
     mL 74 73,
     mM 75 7,
     O 76 (.agg [.s [],I 0] [(0,K0,(.t 74)),(1,K0,(.t 75))]),
     O 77 (.bsl (K1 2) (.a [.s [],I 0]) 1 [(0,(.t 76))]),
     O 78 (.app (K1 2) 24 (.t 69) (.t 77)),
     mM 5 78] [78,77,76,7,75,74,73,72,71,70,69]) (
   sq (.reg [
     mM 79 5,
     mM 80 3,
     mM 81 6,
     O 82 (.sl (K1 2) (.t 80) (some (.t 81)) none none),
     O 83 (.app (K1 2) 24 (.t 79) (.t 82)),
     mM 5 83] [83,82,6,81,3,80,79]) (
   .reg [
    mM 84 5,
    mM 3 84] [5,84])))))))))) (
 .reg [
  mM 12 4,
  O 13 (.bin .add (.t 12) (.c (I 1))),
  mM 4 13] [13,12]))
def qh9:PF:=⟨1,[.t 2],
 sq (.reg [
   O 2 (.mov (.c (.l (K1 2) [] true)))] [2]) (
 sq (.reg [
   O 3 (.mov (.c (.l (K1 2) [] true)))] []) (
 sq (sq (.reg [
    mI 4 0] []) (
  .block 0 (
   .loop [0,3,4] qia))) (
 sq (.reg [
   mM 85 3,
   mM 2 85] [3,85]) (
 .ret))))⟩
def qm5:PC :=
 sq (sq (.reg [
    mM 7 3,
    mM 8 0,
    O 9 (.len true (.t 8)),
    O 10 (.bin .lss (.t 7) (.t 9))] [9,8,7]) (
  .cond (.t 10) (.skip)
   (.exit 0))) (
 sq (.block 1 (
   sq (.reg [
     mM 13 0,
     mM 14 3,
     O 15 (.idxS (.t 13) (.t 14)),
     O 16 (.bin .lss (.t 15) (.c (.i .u8 65))),
     mM 17 16,
     OG 18 17 false (.mov (.t 0)),
     OG 19 17 false (.mov (.t 3)),
     OG 20 17 false (.idxS (.t 18) (.t 19)),
     OG 21 17 false (.bin .gtr (.t 20) (.c (.i .u8 90))),
     O 22 (.pick (.t 17) (.c (.b true)) (.t 21))] [21,20,19,18,17,16,15,14,13]) (
   .cond (.t 22) (sq (.reg [
      O 2 (.mov (.c (.b false)))] []) (
    .ret))
    (.skip)))) (
 .reg [
  mM 11 3,
  O 12 (.bin .add (.t 11) (.c (I 1))),
  mM 3 12] [12,11]))
def qhH:PF:=⟨1,[.t 2],
 sq (.reg [
   O 2 (.mov (.c (.b false)))] [2]) (
 sq (sq (.reg [
    mM 4 0,
    O 5 (.len true (.t 4)),
    O 6 (.bin .neq (.t 5) (.c (I 3)))] [5,4]) (
  .cond (.t 6) (sq (.reg [
     O 2 (.mov (.c (.b false)))] []) (
   .ret))
   (.skip))) (
 sq (sq (.reg [
    mI 3 0] []) (
  .block 0 (
   .loop [0,3] qm5))) (
 sq (.reg [
   O 2 (.mov (.c (.b true)))] []) (
 .ret))))⟩
end Go.Sim
end
section
namespace Go.Sim
def qrA:PC :=
 sq (sq (.reg [
    mM 13 4,
    O 14 (.bin .lss (.t 13) (.c (I 8)))] [13]) (
  .cond (.t 14) (.skip)
   (.exit 0))) (
 sq (.block 1 (
   sq (.reg [
     mM 17 0,
     O 18 (.bin .rem (.t 17) (.c (I 10))),
     mM 19 0,
     O 20 (.bin .rem (.t 19) (.c (I 10))),
     O 21 (.bin .add (.t 20) (.c (I 1))),
     O 22 (.slS (.c (.s [48,49,50,51,52,53,54,55,56,57])) (some (.t 18)) (some (.t 21))),
     mM 23 3,
     O 24 (.bin .add (.t 22) (.t 23)),
     mM 3 24] [24,23,22,21,20,19,18,17]) (
   .reg [
    mM 25 0,
    O 26 (.bin .quo (.t 25) (.c (I 10))),
    mM 0 26] [26,25]))) (
 .reg [
  mM 15 4,
  O 16 (.bin .add (.t 15) (.c (I 1))),
  mM 4 16] [16,15]))
def qhT:PF:=⟨1,[.t 2],
 sq (.reg [
   O 2 (.mov (.c (.s [])))] [2]) (
 sq (sq (.reg [
    mM 7 0,
    O 8 (.bin .lss (.t 7) (.c (I 1000))),
    mM 9 8,
    OG 10 9 false (.mov (.t 0)),
    OG 11 9 false (.bin .gtr (.t 10) (.c (I 99999999))),
    O 12 (.pick (.t 9) (.c (.b true)) (.t 11))] [11,10,9,8,7]) (
  .cond (.t 12) (sq (.reg [
     O 2 (.mov (.c (.s [])))] []) (
   .ret))
   (.skip))) (
 sq (.reg [
   O 3 (.mov (.c (.s [])))] []) (
 sq (sq (.reg [
    mI 4 0] []) (
  .block 0 (
   .loop [0,3,4] qrA))) (
 sq (.reg [
   mM 28 3,
   O 29 (.bin .add (.c (.s [67,66])) (.t 28)),
   O 30 (.call 0 177 [.t 29]),
   mM 27 30,
   mX 31 27 0,
   mX 32 27 1,
   mM 5 31,
   mM 6 32] [6,32,31,27,30,29,3,28]) (
 sq (.reg [
   mM 33 5,
   mM 2 33] [5,33]) (
 .ret))))))⟩
def qg5:PF:=⟨1,[.t 2,.t 3],
 sq (.reg [
   O 2 (.mov (.c (.s []))),
   mI 3 0] [3,2]) (
 sq (sq (.reg [
    mM 5 0,
    O 6 (.len true (.t 5)),
    O 7 (.bin .lss (.t 6) (.c (I 1))),
    mM 8 7,
    OG 9 8 false (.mov (.t 0)),
    OG 10 8 false (.len true (.t 9)),
    OG 11 8 false (.bin .gtr (.t 10) (.c (I 46))),
    O 12 (.pick (.t 8) (.c (.b true)) (.t 11))] [11,10,9,8,7,6,5]) (
  .cond (.t 12) (sq (.reg [
     O 2 (.mov (.c (.s []))),
     mI 3 5] []) (
   .ret))
   (.skip))) (
 sq (sq (.reg [
    mM 13 0,
    O 14 (.call 0 259 [.t 13]),
    O 15 (.un .not (.t 14))] [14,13]) (
  .cond (.t 15) (sq (.reg [
     O 2 (.mov (.c (.s []))),
     mI 3 2] []) (
   .ret))
   (.skip))) (
 sq (.reg [
   mM 16 0,
   O 17 (.bin .add (.t 16) (.c (.s [48,48]))),
   O 18 (.call 0 260 [.t 17]),
   O 19 (.bin .sub (.c (I 98)) (.t 18)),
   mM 4 19] [19,18,17,16]) (
 sq (.regD [
   mM 20 0,
   mM 21 4,
   O 22 (.bin .quo (.t 21) (.c (I 10))),
   mM 23 4,
   O 24 (.bin .quo (.t 23) (.c (I 10))),
   O 25 (.bin .add (.t 24) (.c (I 1))),
   O 26 (.slS (.c (.s [48,49,50,51,52,53,54,55,56,57])) (some (.t 22)) (some (.t 25))),
   O 27 (.bin .add (.t 20) (.t 26)),
   mM 28 4,
   O 29 (.bin .rem (.t 28) (.c (I 10))),
   mM 30 4,
   O 31 (.bin .rem (.t 30) (.c (I 10))),
   O 32 (.bin .add (.t 31) (.c (I 1))),
   O 33 (.slS (.c (.s [48,49,50,51,52,53,54,55,56,57])) (some (.t 29)) (some (.t 32))),
   O 34 (.bin .add (.t 27) (.t 33)),
   mM 2 34,
   mI 3 0] [0,0,2,0,8,24,62,127,0,256,0,1024,3072,7936,16383,32767,65535] [34,33,32,31,30,29,28,27,26,25,24,23,22,4,21,0,20]) (
 .ret)))))⟩
def qzr:PC :=
 sq (sq (.reg [
    mM 4 3,
    mM 5 0,
    O 6 (.len true (.t 5)),
    O 7 (.bin .lss (.t 4) (.t 6))] [6,5,4]) (
  .cond (.t 7) (.skip)
   (.exit 0))) (
 sq (.block 1 (
   sq (.reg [
     mM 10 0,
     mM 11 3,
     O 12 (.idxS (.t 10) (.t 11)),
     O 13 (.bin .lss (.t 12) (.c (.i .u8 48))),
     mM 14 13,
     OG 15 14 false (.mov (.t 0)),
     OG 16 14 false (.mov (.t 3)),
     OG 17 14 false (.idxS (.t 15) (.t 16)),
     OG 18 14 false (.bin .gtr (.t 17) (.c (.i .u8 57))),
     O 19 (.pick (.t 14) (.c (.b true)) (.t 18)),
     mM 20 19,
     OG 21 20 true (.mov (.t 0)),
     OG 22 20 true (.mov (.t 3)),
     OG 23 20 true (.idxS (.t 21) (.t 22)),
     OG 24 20 true (.bin .lss (.t 23) (.c (.i .u8 65))),
     OG 25 20 true (.mov (.t 24)),
     OG 26 25 false (.mov (.t 0)),
     OG 27 25 false (.mov (.t 3)),
     OG 28 25 false (.idxS (.t 26) (.t 27)),
     OG 29 25 false (.bin .gtr (.t 28) (.c (.i .u8 90))),
     OG 30 20 true (.pick (.t 25) (.c (.b true)) (.t 29)),
     O 31 (.pick (.t 20) (.t 30) (.c (.b false)))] [30,29,28,27,26,25,24,23,22,21,20,19,18,17,16,15,14,13,12,11,10]) (
   .cond (.t 31) (sq (.reg [
      O 2 (.mov (.c (.b false)))] []) (
    .ret))
    (.skip)))) (
 .reg [
  mM 8 3,
  O 9 (.bin .add (.t 8) (.c (I 1))),
  mM 3 9] [9,8]))
def qjx:PF:=⟨1,[.t 2],
 sq (.reg [
   O 2 (.mov (.c (.b false)))] [2]) (
 sq (sq (.reg [
    mI 3 0] []) (
  .block 0 (
   .loop [0,3] qzr))) (
 sq (.reg [
   O 2 (.mov (.c (.b true)))] []) (
 .ret)))⟩
def qoK:PC :=
 sq (sq (.reg [
    mM 5 4,
    mM 6 0,
    O 7 (.len true (.t 6)),
    O 8 (.bin .lss (.t 5) (.t 7))] [7,6,5]) (
  .cond (.t 8) (.skip)
   (.exit 0))) (
 sq (.block 1 (
   sq (.reg [
     mM 11 0,
     mM 12 4,
     O 13 (.idxS (.t 11) (.t 12)),
     O 14 (.bin .leq (.t 13) (.c (.i .u8 57)))] [13,12,11]) (
   .cond (.t 14) (.reg [
     mM 15 3,
     O 16 (.bin .mul (.c (I 10)) (.t 15)),
     mM 17 0,
     mM 18 4,
     O 19 (.idxS (.t 17) (.t 18)),
     O 20 (.bin .sub (.t 19) (.c (.i .u8 48))),
     O 21 (.conv .i64 (.t 20)),
     O 22 (.bin .add (.t 16) (.t 21)),
     O 23 (.bin .rem (.t 22) (.c (I 97))),
     mM 3 23] [23,22,21,20,19,18,17,16,15])
    (.reg [
     mM 24 3,
     O 25 (.bin .mul (.c (I 100)) (.t 24)),
     mM 26 0,
     mM 27 4,
     O 28 (.idxS (.t 26) (.t 27)),
     O 29 (.bin .sub (.t 28) (.c (.i .u8 65))),
     O 30 (.conv .i64 (.t 29)),
     O 31 (.bin .add (.t 25) (.t 30)),
     O 32 (.bin .add (.t 31) (.c (I 10))),
     O 33 (.bin .rem (.t 32) (.c (I 97))),
     mM 3 33] [33,32,31,30,29,28,27,26,25,24])))) (
 .reg [
  mM 9 4,
  O 10 (.bin .add (.t 9) (.c (I 1))),
  mM 4 10] [10,9]))
def qlb:PF:=⟨1,[.t 2],
 sq (.reg [
   mI 2 0] [2]) (
 sq (.reg [
   mI 3 0] []) (
 sq (sq (.reg [
    mI 4 0] []) (
  .block 0 (
   .loop [0,3,4] qoK))) (
 sq (.reg [
   mM 34 3,
   mM 2 34] [3,34]) (
 .ret))))⟩
def qKv:PC :=
 sq (sq (.reg [
    mM 12 3,
    mM 13 0,
    O 14 (.len false (.t 13)),
    O 15 (.bin .lss (.t 12) (.t 14))] [14,13,12]) (
  .cond (.t 15) (.skip)
   (.exit 0))) (
 sq (.block 1 (
   sq (sq (.reg [
      mM 18 0,
      mM 19 3,
      O 20 (.iaddr (K1 2) (.t 18) (.t 19)),
      mF 21 0 20,
      mL 22 21,
      O 23 (.call 0 537 [.t 22]),
      O 24 (.un .not (.t 23))] [23,22,21,20,19,18]) (
    .cond (.t 24) (sq (.reg [
       mI 2 4] []) (
     .ret))
     (.skip))) (
   sq (sq (.reg [
      mM 25 0,
      mM 26 3,
      O 27 (.iaddr (K1 2) (.t 25) (.t 26)),
      mF 28 1 27,
      mL 29 28,
      O 30 (.bin .lss (.t 29) (.c (I 0))),
      mM 31 30,
      OG 32 31 false (.mov (.t 0)),
      OG 33 31 false (.mov (.t 3)),
      OG 34 31 false (.iaddr (K1 2) (.t 32) (.t 33)),
      OG 35 31 false (.faddr 1 (.t 34)),
      OG 36 31 false (.load K0 (.t 35)),
      OG 37 31 false (.bin .gtr (.t 36) (.c (I 4))),
      O 38 (.pick (.t 31) (.c (.b true)) (.t 37))] [37,36,35,34,33,32,31,30,29,28,27,26,25]) (
    .cond (.t 38) (sq (.reg [
       mI 2 1] []) (
     .ret))
     (.skip))) (
   sq (.regD [
     mM 39 3,
     O 40 (.bin .gtr (.t 39) (.c (I 0))),
     mM 41 40,
     OG 42 41 true (.mov (.t 0)),
     OG 43 41 true (.mov (.t 3)),
     OG 44 41 true (.iaddr (K1 2) (.t 42) (.t 43)),
     OG 45 41 true (.faddr 0 (.t 44)),
     OG 46 41 true (.load K0 (.t 45)),
     OG 47 41 true (.mov (.t 0)),
     OG 48 41 true (.mov (.t 3)),
     OG 49 41 true (.bin .sub (.t 48) (.c (I 1))),
     OG 50 41 true (.iaddr (K1 2) (.t 47) (.t 49)),
     OG 51 41 true (.faddr 0 (.t 50)),
     OG 52 41 true (.load K0 (.t 51)),
     OG 53 41 true (.bin .leq (.t 46) (.t 52)),
     O 54 (.pick (.t 41) (.t 53) (.c (.b false)))] [0,1,3,7,7,31,63,127,7,7,519,1799,3847,7943,16383,32767] [53,52,51,50,49,48,47,46,45,44,43,42,41,40,39]) (
   .cond (.t 54) (sq (.reg [
      mI 2 10] []) (
    .ret))
    (.skip)))))) (
 .reg [
  mM 16 3,
  O 17 (.bin .add (.t 16) (.c (I 1))),
  mM 3 17] [17,16]))
def qjB:PF:=⟨1,[.t 2],
 sq (.reg [
   mI 2 0] [2]) (
 sq (sq (.reg [
    mM 4 0,
    O 5 (.len false (.t 4)),
    O 6 (.bin .lss (.t 5) (.c (I 1))),
    mM 7 6,
    OG 8 7 false (.mov (.t 0)),
    OG 9 7 false (.len false (.t 8)),
    OG 10 7 false (.bin .gtr (.t 9) (.c (I 8))),
    O 11 (.pick (.t 7) (.c (.b true)) (.t 10))] [10,9,8,7,6,5,4]) (
  .cond (.t 11) (sq (.reg [
     mI 2 5] []) (
   .ret))
   (.skip))) (
 sq (sq (.reg [
    mI 3 0] []) (
  .block 0 (
   .loop [0,3] qKv))) (
 sq (.reg [
   mI 2 0] []) (
 .ret))))⟩
def qDV:PC :=
 sq (sq (.reg [
    mM 21 5,
    mM 22 0,
    O 23 (.len false (.t 22)),
    O 24 (.bin .lss (.t 21) (.t 23))] [23,22,21]) (
  .cond (.t 24) (.skip)
   (.exit 0))) (
 sq (.block 1 (
   sq (.reg [
     mM 27 0,
     mM 28 5,
     O 29 (.iaddr (K1 4) (.t 27) (.t 28)),
     O 30 (.load (K1 4) (.t 29)),
     O 6 (.alloc (K1 4) (.a [I 0,I 0,I 0,.s []])),
     E (.store (K1 4) (.t 6) (.t 30))] [30,29,28,27]) (
   sq (sq (.reg [
      mF 31 0 6,
      mL 32 31,
      O 33 (.bin .lss (.t 32) (.c (I 1))),
      mM 34 33,
      OG 35 34 false (.faddr 0 (.t 6)),
      OG 36 34 false (.load K0 (.t 35)),
      OG 37 34 false (.bin .gtr (.t 36) (.c (I 999))),
      O 38 (.pick (.t 34) (.c (.b true)) (.t 37)),
      mM 39 38,
      OG 40 39 false (.faddr 2 (.t 6)),
      OG 41 39 false (.load K0 (.t 40)),
      OG 42 39 false (.bin .lss (.t 41) (.c (I 1))),
      O 43 (.pick (.t 39) (.c (.b true)) (.t 42)),
      mM 44 43,
      OG 45 44 false (.faddr 2 (.t 6)),
      OG 46 44 false (.load K0 (.t 45)),
      OG 47 44 false (.bin .gtr (.t 46) (.c (I 5))),
      O 48 (.pick (.t 44) (.c (.b true)) (.t 47))] [47,46,45,44,43,42,41,40,39,38,37,36,35,34,33,32,31]) (
    .cond (.t 48) (sq (.reg [
       mI 4 1] []) (
     .ret))
     (.skip))) (
   sq (sq (.regD [
      mM 49 5,
      O 50 (.bin .gtr (.t 49) (.c (I 0))),
      mM 51 50,
      OG 52 51 true (.faddr 0 (.t 6)),
      OG 53 51 true (.load K0 (.t 52)),
      OG 54 51 true (.mov (.t 0)),
      OG 55 51 true (.mov (.t 5)),
      OG 56 51 true (.bin .sub (.t 55) (.c (I 1))),
      OG 57 51 true (.iaddr (K1 4) (.t 54) (.t 56)),
      OG 58 51 true (.faddr 0 (.t 57)),
      OG 59 51 true (.load K0 (.t 58)),
      OG 60 51 true (.bin .leq (.t 53) (.t 59)),
      O 61 (.pick (.t 51) (.t 60) (.c (.b false)))] [0,1,3,7,15,7,7,71,231,487,999,2047,4095] [60,59,58,57,56,55,54,53,52,51,50,49]) (
    .cond (.t 61) (sq (.reg [
       mI 4 10] []) (
     .ret))
     (.skip))) (
   sq (sq (.reg [
      mF 62 3 6,
      mL 63 62,
      O 64 (.call 0 539 [.t 63]),
      O 65 (.un .not (.t 64))] [64,63,62]) (
    .cond (.t 65) (sq (.reg [
       mI 4 4] []) (
     .ret))
     (.skip))) (
   sq (sq (.reg [
      mF 66 1 6,
      mL 67 66,
      O 68 (.bin .eql (.t 67) (.c (I 0)))] [67,66]) (
    .cond (.t 68) (.exit 1)
     (.skip))) (
   sq (.regD [
     mM 70 0,
     mM 71 5,
     O 72 (.sl (K1 4) (.t 70) none (some (.t 71)) none),
     mF 73 1 6,
     mL 74 73,
     O 75 (.call 0 540 [.t 72,.t 74]),
     mM 69 75,
     mX 76 69 0,
     mX 77 69 1,
     O 7 (.alloc (K1 4) (.a [I 0,I 0,I 0,.s []])),
     E (.store (K1 4) (.t 7) (.t 76)),
     mM 8 77] [0,0,3,0,8,31,63,127,127,0,767,2047] [77,76,69,75,74,73,72,71,70]) (
   sq (sq (.reg [
      mM 78 8,
      O 79 (.un .not (.t 78))] [8,78]) (
    .cond (.t 79) (sq (.reg [
       mI 4 11] []) (
     .ret))
     (.skip))) (
   sq (.reg [
     mF 80 2 7,
     mL 81 80,
     mF 82 2 6,
     mL 83 82,
     O 84 (.bin .neq (.t 81) (.t 83))] [83,6,82,81,7,80]) (
   .cond (.t 84) (sq (.reg [
      mI 4 3] []) (
    .ret))
    (.skip))))))))))) (
 .reg [
  mM 25 5,
  O 26 (.bin .add (.t 25) (.c (I 1))),
  mM 5 26] [26,25]))
def qEQ:PC :=
 sq (sq (.reg [
    mM 115 11,
    mM 116 9,
    O 117 (.len false (.t 116)),
    O 118 (.bin .lss (.t 115) (.t 117))] [117,116,115]) (
  .cond (.t 118) (.skip)
   (.exit 2))) (
 sq (.block 3 (
   sq (.regD [
     mM 121 0,
     mM 122 9,
     mM 123 11,
     O 124 (.iaddr K0 (.t 122) (.t 123)),
     mL 125 124,
     mM 126 10,
     mM 127 11,
     O 128 (.iaddr K0 (.t 126) (.t 127)),
     mL 129 128,
     O 130 (.call 0 541 [.t 121,.t 125,.t 129]),
     mM 12 130] [0,0,0,6,14,0,0,96,224,511,1023] [130,129,128,127,126,125,124,123,122,121]) (
   sq (.reg [
     mM 131 12,
     O 132 (.bin .neq (.t 131) (.c (I 0)))] [131]) (
   .cond (.t 132) (sq (.reg [
      mM 133 12,
      mM 4 133] [12,133]) (
    .ret))
    (.skip))))) (
 .reg [
  mM 119 11,
  O 120 (.bin .add (.t 119) (.c (I 1))),
  mM 11 120] [120,119]))
def qkG:PF:=⟨2,[.t 4],
 sq (.reg [
   O 3 (.box (K1 14) (.t 1)),
   mI 4 0] [4,1]) (
 sq (sq (.reg [
    mM 13 0,
    O 14 (.len false (.t 13)),
    O 15 (.bin .lss (.t 14) (.c (I 1))),
    mM 16 15,
    OG 17 16 false (.mov (.t 0)),
    OG 18 16 false (.len false (.t 17)),
    OG 19 16 false (.bin .gtr (.t 18) (.c (I 40))),
    O 20 (.pick (.t 16) (.c (.b true)) (.t 19))] [19,18,17,16,15,14,13]) (
  .cond (.t 20) (sq (.reg [
     mI 4 5] []) (
   .ret))
   (.skip))) (
 sq (sq (.reg [
    mI 5 0] []) (
  .block 0 (
   .loop [0,3,5] qDV))) (
 sq (.reg [
   mF 85 0 3,
   mL 86 85,
   mF 87 1 3,
   mL 88 87,
   mF 89 2 3,
   mL 90 89,
   mF 91 3 3,
   mL 92 91,
   mF 93 4 3,
   mL 94 93,
   mF 95 5 3,
   mL 96 95,
   mF 97 6 3,
   mL 98 97,
   mF 99 7 3,
   mL 100 99,
   mF 101 8 3,
   mL 102 101,
   mF 103 9 3,
   mL 104 103,
   mF 105 10 3,
   mL 106 105,
   mF 107 11 3,
   mL 108 107,
   mF 109 12 3,
   mL 110 109,
   mF 111 13 3,
   mL 112 111,
   O 113 (.bsl K0 (I 0) 14 [(0,(.t 86)),(1,(.t 88)),(2,(.t 90)),(3,(.t 92)),(4,(.t 94)),(5,(.t 96)),(6,(.t 98)),(7,(.t 100)),(8,(.t 102)),(9,(.t 104)),(10,(.t 106)),(11,(.t 108)),(12,(.t 110)),(13,(.t 112))]),
   mM 9 113] [113,112,111,110,109,108,107,106,105,104,103,102,101,100,99,98,97,96,95,94,93,92,91,90,89,88,87,86,3,85]) (
 sq (.reg [
   O 114 (.bsl K0 (I 0) 14 [(0,(.c (I 1))),(1,(.c (I 2))),(2,(.c (I 5))),(3,(.c (I 4))),(4,(.c (I 4))),(5,(.c (I 2))),(6,(.c (I 1))),(7,(.c (I 1))),(8,(.c (I 4))),(9,(.c (I 4))),(10,(.c (I 2))),(11,(.c (I 5))),(12,(.c (I 5))),(13,(.c (I 4)))]),
   mM 10 114] [114]) (
 sq (sq (.reg [
    mI 11 0] []) (
  .block 2 (
   .loop [0,9,10,11] qEQ))) (
 sq (.reg [
   mI 4 0] []) (
 .ret)))))))⟩
def qDY:PC :=
 sq (sq (.reg [
    mM 11 3,
    mF 12 18 1,
    mL 13 12,
    O 14 (.len false (.t 13)),
    O 15 (.bin .lss (.t 11) (.t 14))] [14,13,12,11]) (
  .cond (.t 15) (.skip)
   (.exit 0))) (
 sq (.block 1 (
   sq (.reg [
     mF 18 18 1,
     mL 19 18,
     mM 20 3,
     O 21 (.iaddr (K1 7) (.t 19) (.t 20)),
     O 22 (.load (K1 7) (.t 21)),
     O 4 (.alloc (K1 7) (.a [I 0,I 0,I 0,I 0,.s [],.s [],.s []])),
     E (.store (K1 7) (.t 4) (.t 22))] [22,21,20,19,18]) (
   sq (.reg [
     mF 23 2 4,
     mL 24 23,
     O 25 (.bin .eql (.t 24) (.c (I 0))),
     mM 26 25,
     OG 27 26 false (.faddr 2 (.t 4)),
     OG 28 26 false (.load K0 (.t 27)),
     OG 29 26 false (.call 0 544 [.t 28]),
     OG 30 26 false (.mov (.t 29)),
     OG 31 30 true (.faddr 2 (.t 4)),
     OG 32 30 true (.load K0 (.t 31)),
     OG 33 30 true (.faddr 1 (.t 4)),
     OG 34 30 true (.load K0 (.t 33)),
     OG 35 30 true (.bin .geq (.t 32) (.t 34)),
     OG 36 26 false (.pick (.t 30) (.t 35) (.c (.b false))),
     O 37 (.pick (.t 26) (.c (.b true)) (.t 36)),
     mM 5 37] [37,36,35,34,33,32,31,30,29,28,27,26,25,24,23]) (
   sq (sq (.reg [
      O 38 (.load (K1 7) (.t 4)),
      O 39 (.call 0 545 [.t 38]),
      O 40 (.un .not (.t 39)),
      mM 41 40,
      OG 42 41 false (.mov (.t 5)),
      OG 43 41 false (.un .not (.t 42)),
      O 44 (.pick (.t 41) (.c (.b true)) (.t 43)),
      mM 45 44,
      OG 46 45 false (.faddr 3 (.t 4)),
      OG 47 45 false (.load K0 (.t 46)),
      OG 48 45 false (.bin .lss (.t 47) (.c (I 0))),
      O 49 (.pick (.t 45) (.c (.b true)) (.t 48)),
      mM 50 49,
      OG 51 50 false (.faddr 3 (.t 4)),
      OG 52 50 false (.load K0 (.t 51)),
      OG 53 50 false (.bin .gtr (.t 52) (.c (I 1000000000000))),
      O 54 (.pick (.t 50) (.c (.b true)) (.t 53))] [53,52,51,50,49,48,47,46,45,44,43,5,42,41,40,39,38]) (
    .cond (.t 54) (sq (.reg [
       mI 2 1] []) (
     .ret))
     (.skip))) (
   sq (sq (.regD [
      mM 55 3,
      O 56 (.bin .gtr (.t 55) (.c (I 0))),
      mM 57 56,
      OG 58 57 true (.faddr 0 (.t 4)),
      OG 59 57 true (.load K0 (.t 58)),
      OG 60 57 true (.faddr 18 (.t 1)),
      OG 61 57 true (.load K0 (.t 60)),
      OG 62 57 true (.mov (.t 3)),
      OG 63 57 true (.bin .sub (.t 62) (.c (I 1))),
      OG 64 57 true (.iaddr (K1 7) (.t 61) (.t 63)),
      OG 65 57 true (.faddr 0 (.t 64)),
      OG 66 57 true (.load K0 (.t 65)),
      OG 67 57 true (.bin .leq (.t 59) (.t 66)),
      O 68 (.pick (.t 57) (.t 67) (.c (.b false)))] [0,1,3,7,15,7,39,7,135,487,999,2023,4095,8191] [67,66,65,64,63,62,61,60,59,58,57,56,55]) (
    .cond (.t 68) (sq (.reg [
       mI 2 10] []) (
     .ret))
     (.skip))) (
   sq (.reg [
     O 69 (.load (K1 22) (.t 1)),
     O 70 (.load (K1 7) (.t 4)),
     O 71 (.call 0 546 [.t 69,.t 70]),
     mM 6 71] [71,4,70,69]) (
   sq (.reg [
     mM 72 6,
     O 73 (.bin .neq (.t 72) (.c (I 0)))] [72]) (
   .cond (.t 73) (sq (.reg [
      mM 74 6,
      mM 2 74] [6,74]) (
    .ret))
    (.skip))))))))) (
 .reg [
  mM 16 3,
  O 17 (.bin .add (.t 16) (.c (I 1))),
  mM 3 17] [17,16]))
def qkd:PF:=⟨1,[.t 2],
 sq (.reg [
   O 1 (.box (K1 22) (.t 0)),
   mI 2 0] [2,0]) (
 sq (sq (.reg [
    mF 7 18 1,
    mL 8 7,
    O 9 (.len false (.t 8)),
    O 10 (.bin .gtr (.t 9) (.c (I 64)))] [9,8,7]) (
  .cond (.t 10) (sq (.reg [
     mI 2 5] []) (
   .ret))
   (.skip))) (
 sq (sq (.reg [
    mI 3 0] []) (
  .block 0 (
   .loop [1,3] qDY))) (
 sq (.reg [
   mI 2 0] []) (
 .ret))))⟩
def qB9:PC :=
 sq (sq (.reg [
    mM 8 3,
    mM 9 0,
    O 10 (.len false (.t 9)),
    O 11 (.bin .lss (.t 8) (.t 10))] [10,9,8]) (
  .cond (.t 11) (.skip)
   (.exit 0))) (
 sq (.block 1 (
   sq (sq (.reg [
      mM 14 0,
      mM 15 3,
      O 16 (.iaddr (K1 6) (.t 14) (.t 15)),
      O 17 (.load (K1 6) (.t 16)),
      O 18 (.call 0 549 [.t 17]),
      mM 4 18] [18,17,16,15,14]) (
    sq (.reg [
      mM 19 4,
      O 20 (.bin .neq (.t 19) (.c (I 0)))] [19]) (
    .cond (.t 20) (sq (.reg [
       mM 21 4,
       mM 2 21] [4,21]) (
     .ret))
     (.skip)))) (
   sq (sq (.regD [
      mM 22 3,
      O 23 (.bin .gtr (.t 22) (.c (I 0))),
      mM 24 23,
      OG 25 24 true (.mov (.t 0)),
      OG 26 24 true (.mov (.t 3)),
      OG 27 24 true (.iaddr (K1 6) (.t 25) (.t 26)),
      OG 28 24 true (.faddr 0 (.t 27)),
      OG 29 24 true (.load K0 (.t 28)),
      OG 30 24 true (.mov (.t 0)),
      OG 31 24 true (.mov (.t 3)),
      OG 32 24 true (.bin .sub (.t 31) (.c (I 1))),
      OG 33 24 true (.iaddr (K1 6) (.t 30) (.t 32)),
      OG 34 24 true (.faddr 0 (.t 33)),
      OG 35 24 true (.load K0 (.t 34)),
      OG 36 24 true (.bin .leq (.t 29) (.t 35)),
      O 37 (.pick (.t 24) (.t 36) (.c (.b false)))] [0,1,3,7,7,31,63,127,7,7,519,1799,3847,7943,16383,32767] [36,35,34,33,32,31,30,29,28,27,26,25,24,23,22]) (
    .cond (.t 37) (sq (.reg [
       mI 2 10] []) (
     .ret))
     (.skip))) (
   sq (.regD [
     mM 38 0,
     mM 39 3,
     O 40 (.sl (K1 6) (.t 38) none (some (.t 39)) none),
     mM 41 0,
     mM 42 3,
     O 43 (.iaddr (K1 6) (.t 41) (.t 42)),
     mF 44 5 43,
     mL 45 44,
     O 46 (.call 0 550 [.t 40,.t 45])] [0,0,3,0,0,24,56,120,255] [45,44,43,42,41,40,39,38]) (
   .cond (.t 46) (sq (.reg [
      mI 2 12] []) (
    .ret))
    (.skip)))))) (
 .reg [
  mM 12 3,
  O 13 (.bin .add (.t 12) (.c (I 1))),
  mM 3 13] [13,12]))
def qlA:PF:=⟨1,[.t 2],
 sq (.reg [
   mI 2 0] [2]) (
 sq (sq (.reg [
    mM 5 0,
    O 6 (.len false (.t 5)),
    O 7 (.bin .gtr (.t 6) (.c (I 64)))] [6,5]) (
  .cond (.t 7) (sq (.reg [
     mI 2 5] []) (
   .ret))
   (.skip))) (
 sq (sq (.reg [
    mI 3 0] []) (
  .block 0 (
   .loop [0,3] qB9))) (
 sq (.reg [
   mI 2 0] []) (
 .ret))))⟩
def qK3:PC :=
 sq (sq (.reg [
    mM 7 3,
    mM 8 0,
    O 9 (.len false (.t 8)),
    O 10 (.bin .lss (.t 7) (.t 9))] [9,8,7]) (
  .cond (.t 10) (.skip)
   (.exit 0))) (
 sq (.block 1 (
   sq (sq (.reg [
      mM 13 0,
      mM 14 3,
      O 15 (.iaddr (K1 7) (.t 13) (.t 14)),
      O 16 (.load (K1 7) (.t 15)),
      O 17 (.call 0 551 [.t 16]),
      O 18 (.un .not (.t 17))] [17,16,15,14,13]) (
    .cond (.t 18) (sq (.reg [
       mI 2 1] []) (
     .ret))
     (.skip))) (
   sq (sq (.reg [
      mM 19 0,
      mM 20 3,
      O 21 (.iaddr (K1 7) (.t 19) (.t 20)),
      mF 22 6 21,
      mL 23 22,
      O 24 (.call 0 552 [.t 23]),
      O 25 (.un .not (.t 24))] [24,23,22,21,20,19]) (
    .cond (.t 25) (sq (.reg [
       mI 2 4] []) (
     .ret))
     (.skip))) (
   sq (.regD [
     mM 26 3,
     O 27 (.bin .gtr (.t 26) (.c (I 0))),
     mM 28 27,
     OG 29 28 true (.mov (.t 0)),
     OG 30 28 true (.mov (.t 3)),
     OG 31 28 true (.iaddr (K1 7) (.t 29) (.t 30)),
     OG 32 28 true (.faddr 0 (.t 31)),
     OG 33 28 true (.load K0 (.t 32)),
     OG 34 28 true (.mov (.t 0)),
     OG 35 28 true (.mov (.t 3)),
     OG 36 28 true (.bin .sub (.t 35) (.c (I 1))),
     OG 37 28 true (.iaddr (K1 7) (.t 34) (.t 36)),
     OG 38 28 true (.faddr 0 (.t 37)),
     OG 39 28 true (.load K0 (.t 38)),
     OG 40 28 true (.bin .leq (.t 33) (.t 39)),
     O 41 (.pick (.t 28) (.t 40) (.c (.b false)))] [0,1,3,7,7,31,63,127,7,7,519,1799,3847,7943,16383,32767] [40,39,38,37,36,35,34,33,32,31,30,29,28,27,26]) (
   .cond (.t 41) (sq (.reg [
      mI 2 10] []) (
    .ret))
    (.skip)))))) (
 .reg [
  mM 11 3,
  O 12 (.bin .add (.t 11) (.c (I 1))),
  mM 3 12] [12,11]))
def qlo:PF:=⟨1,[.t 2],
 sq (.reg [
   mI 2 0] [2]) (
 sq (sq (.reg [
    mM 4 0,
    O 5 (.len false (.t 4)),
    O 6 (.bin .gtr (.t 5) (.c (I 64)))] [5,4]) (
  .cond (.t 6) (sq (.reg [
     mI 2 5] []) (
   .ret))
   (.skip))) (
 sq (sq (.reg [
    mI 3 0] []) (
  .block 0 (
   .loop [0,3] qK3))) (
 sq (.reg [
   mI 2 0] []) (
 .ret))))⟩
def qEz:PC :=
 sq (sq (.reg [
    mM 22 3,
    mM 23 0,
    O 24 (.len true (.t 23)),
    O 25 (.bin .lss (.t 22) (.t 24))] [24,23,22]) (
  .cond (.t 25) (.skip)
   (.exit 0))) (
 sq (.block 1 (
   sq (.reg [
     mM 28 0,
     mM 29 3,
     O 30 (.idxS (.t 28) (.t 29)),
     O 31 (.bin .lss (.t 30) (.c (.i .u8 97))),
     mM 32 31,
     OG 33 32 false (.mov (.t 0)),
     OG 34 32 false (.mov (.t 3)),
     OG 35 32 false (.idxS (.t 33) (.t 34)),
     OG 36 32 false (.bin .gtr (.t 35) (.c (.i .u8 122))),
     O 37 (.pick (.t 32) (.c (.b true)) (.t 36)),
     mM 38 37,
     OG 39 38 true (.mov (.t 0)),
     OG 40 38 true (.mov (.t 3)),
     OG 41 38 true (.idxS (.t 39) (.t 40)),
     OG 42 38 true (.bin .lss (.t 41) (.c (.i .u8 48))),
     OG 43 38 true (.mov (.t 42)),
     OG 44 43 false (.mov (.t 0)),
     OG 45 43 false (.mov (.t 3)),
     OG 46 43 false (.idxS (.t 44) (.t 45)),
     OG 47 43 false (.bin .gtr (.t 46) (.c (.i .u8 57))),
     OG 48 38 true (.pick (.t 43) (.c (.b true)) (.t 47)),
     O 49 (.pick (.t 38) (.t 48) (.c (.b false))),
     mM 50 49,
     OG 51 50 true (.mov (.t 0)),
     OG 52 50 true (.mov (.t 3)),
     OG 53 50 true (.idxS (.t 51) (.t 52)),
     OG 54 50 true (.bin .neq (.t 53) (.c (.i .u8 95))),
     O 55 (.pick (.t 50) (.t 54) (.c (.b false)))] [54,53,52,51,50,49,48,47,46,45,44,43,42,41,40,39,38,37,36,35,34,33,32,31,30,29,28]) (
   .cond (.t 55) (sq (.reg [
      O 2 (.mov (.c (.b false)))] []) (
    .ret))
    (.skip)))) (
 .reg [
  mM 26 3,
  O 27 (.bin .add (.t 26) (.c (I 1))),
  mM 3 27] [27,26]))
def qlp:PF:=⟨1,[.t 2],
 sq (.reg [
   O 2 (.mov (.c (.b false)))] [2]) (
 sq (sq (.reg [
    mM 4 0,
    O 5 (.len true (.t 4)),
    O 6 (.bin .lss (.t 5) (.c (I 1))),
    mM 7 6,
    OG 8 7 false (.mov (.t 0)),
    OG 9 7 false (.len true (.t 8)),
    OG 10 7 false (.bin .gtr (.t 9) (.c (I 16))),
    O 11 (.pick (.t 7) (.c (.b true)) (.t 10)),
    mM 12 11,
    OG 13 12 false (.mov (.t 0)),
    OG 14 12 false (.idxS (.t 13) (.c (I 0))),
    OG 15 12 false (.bin .lss (.t 14) (.c (.i .u8 97))),
    O 16 (.pick (.t 12) (.c (.b true)) (.t 15)),
    mM 17 16,
    OG 18 17 false (.mov (.t 0)),
    OG 19 17 false (.idxS (.t 18) (.c (I 0))),
    OG 20 17 false (.bin .gtr (.t 19) (.c (.i .u8 122))),
    O 21 (.pick (.t 17) (.c (.b true)) (.t 20))] [20,19,18,17,16,15,14,13,12,11,10,9,8,7,6,5,4]) (
  .cond (.t 21) (sq (.reg [
     O 2 (.mov (.c (.b false)))] []) (
   .ret))
   (.skip))) (
 sq (sq (.reg [
    mI 3 0] []) (
  .block 0 (
   .loop [0,3] qEz))) (
 sq (.reg [
   O 2 (.mov (.c (.b true)))] []) (
 .ret))))⟩
def qAG:PC :=
 sq (sq (.reg [
    mM 7 6,
    mM 8 0,
    O 9 (.len false (.t 8)),
    O 10 (.bin .lss (.t 7) (.t 9))] [9,8,7]) (
  .cond (.t 10) (.skip)
   (.exit 0))) (
 sq (.block 1 (
   sq (.reg [
     mM 13 0,
     mM 14 6,
     O 15 (.iaddr (K1 3) (.t 13) (.t 14)),
     mF 16 0 15,
     mL 17 16,
     mM 18 1,
     O 19 (.bin .eql (.t 17) (.t 18))] [18,17,16,15,14,13]) (
   .cond (.t 19) (sq (.reg [
      mM 20 0,
      mM 21 6,
      O 22 (.iaddr (K1 3) (.t 20) (.t 21)),
      O 23 (.load (K1 3) (.t 22)),
      E (.store (K1 3) (.t 4) (.t 23)),
      O 5 (.mov (.c (.b true)))] [23,22,6,21,0,20]) (
    .ret))
    (.skip)))) (
 .reg [
  mM 11 6,
  O 12 (.bin .add (.t 11) (.c (I 1))),
  mM 6 12] [12,11]))
def qkZ:PF:=⟨2,[.c 4 (K1 3),.t 5],
 sq (.reg [
   O 4 (.alloc (K1 3) (.a [.s [],(.l K0 [] true),(.l K0 [] true)])),
   O 5 (.mov (.c (.b false)))] [5]) (
 sq (sq (.reg [
    mI 6 0] []) (
  .block 0 (
   .loop [0,1,4,6] qAG))) (
 sq (.reg [
   O 24 (.agg [.s [],(.l K0 [] true),(.l K0 [] true)] []),
   E (.store (K1 3) (.t 4) (.t 24)),
   O 5 (.mov (.c (.b false)))] [24]) (
 .ret)))⟩
def qLt:PC :=
 sq (sq (.reg [
    mM 7 3,
    O 8 (.bin .lss (.t 7) (.c (I 3)))] [7]) (
  .cond (.t 8) (.skip)
   (.exit 0))) (
 sq (.block 1 (
   sq (.reg [
     mM 11 0,
     mM 12 3,
     O 13 (.idxS (.t 11) (.t 12)),
     O 14 (.bin .lss (.t 13) (.c (.i .u8 65))),
     mM 15 14,
     OG 16 15 false (.mov (.t 0)),
     OG 17 15 false (.mov (.t 3)),
     OG 18 15 false (.idxS (.t 16) (.t 17)),
     OG 19 15 false (.bin .gtr (.t 18) (.c (.i .u8 90))),
     O 20 (.pick (.t 15) (.c (.b true)) (.t 19))] [19,18,17,16,15,14,13,12,11]) (
   .cond (.t 20) (sq (.reg [
      O 2 (.mov (.c (.b false)))] []) (
    .ret))
    (.skip)))) (
 .reg [
  mM 9 3,
  O 10 (.bin .add (.t 9) (.c (I 1))),
  mM 3 10] [10,9]))
def qly:PF:=⟨1,[.t 2],
 sq (.reg [
   O 2 (.mov (.c (.b false)))] [2]) (
 sq (sq (.reg [
    mM 4 0,
    O 5 (.len true (.t 4)),
    O 6 (.bin .neq (.t 5) (.c (I 3)))] [5,4]) (
  .cond (.t 6) (sq (.reg [
     O 2 (.mov (.c (.b false)))] []) (
   .ret))
   (.skip))) (
 sq (sq (.reg [
    mI 3 0] []) (
  .block 0 (
   .loop [0,3] qLt))) (
 sq (.reg [
   O 2 (.mov (.c (.b true)))] []) (
 .ret))))⟩
def qLj:PC :=
 sq (sq (.reg [
    mM 9 3,
    mF 10 1 1,
    mL 11 10,
    O 12 (.len false (.t 11)),
    O 13 (.bin .lss (.t 9) (.t 12))] [12,11,10,9]) (
  .cond (.t 13) (.skip)
   (.exit 0))) (
 sq (.block 1 (
   sq (.reg [
     mF 16 1 1,
     mL 17 16,
     mM 18 3,
     O 19 (.iaddr K0 (.t 17) (.t 18)),
     mL 20 19,
     O 21 (.bin .lss (.t 20) (.c (I 0))),
     mM 22 21,
     OG 23 22 false (.faddr 1 (.t 1)),
     OG 24 22 false (.load K0 (.t 23)),
     OG 25 22 false (.mov (.t 3)),
     OG 26 22 false (.iaddr K0 (.t 24) (.t 25)),
     OG 27 22 false (.load K0 (.t 26)),
     OG 28 22 false (.bin .gtr (.t 27) (.c (I 6))),
     O 29 (.pick (.t 22) (.c (.b true)) (.t 28))] [28,27,26,25,24,23,22,21,20,19,18,17,16]) (
   .cond (.t 29) (sq (.reg [
      mI 2 1] []) (
    .ret))
    (.skip)))) (
 .reg [
  mM 14 3,
  O 15 (.bin .add (.t 14) (.c (I 1))),
  mM 3 15] [15,14]))
def qDm:PC :=
 sq (sq (.reg [
    mM 44 4,
    mF 45 2 1,
    mL 46 45,
    O 47 (.len false (.t 46)),
    O 48 (.bin .lss (.t 44) (.t 47))] [47,46,45,44]) (
  .cond (.t 48) (.skip)
   (.exit 2))) (
 sq (.block 3 (
   sq (.reg [
     mF 51 2 1,
     mL 52 51,
     mM 53 4,
     O 54 (.iaddr K0 (.t 52) (.t 53)),
     mL 55 54,
     O 56 (.call 0 544 [.t 55]),
     O 57 (.un .not (.t 56))] [56,55,54,53,52,51]) (
   .cond (.t 57) (sq (.reg [
      mI 2 1] []) (
    .ret))
    (.skip)))) (
 .reg [
  mM 49 4,
  O 50 (.bin .add (.t 49) (.c (I 1))),
  mM 4 50] [50,49]))
def qkf:PF:=⟨1,[.t 2],
 sq (.reg [
   O 1 (.box (K1 3) (.t 0)),
   mI 2 0] [2,0]) (
 sq (sq (.reg [
    mF 5 0 1,
    mL 6 5,
    O 7 (.call 0 552 [.t 6]),
    O 8 (.un .not (.t 7))] [7,6,5]) (
  .cond (.t 8) (sq (.reg [
     mI 2 4] []) (
   .ret))
   (.skip))) (
 sq (sq (.reg [
    mI 3 0] []) (
  .block 0 (
   .loop [1,3] qLj))) (
 sq (sq (.reg [
    mF 30 1 1,
    mL 31 30,
    O 32 (.len false (.t 31)),
    O 33 (.bin .gtr (.t 32) (.c (I 6))),
    mM 34 33,
    OG 35 34 false (.faddr 1 (.t 1)),
    OG 36 34 false (.load K0 (.t 35)),
    OG 37 34 false (.call 0 595 [.t 36]),
    OG 38 34 false (.un .not (.t 37)),
    O 39 (.pick (.t 34) (.c (.b true)) (.t 38))] [38,37,36,35,34,33,32,31,30]) (
  .cond (.t 39) (sq (.reg [
     mI 2 1] []) (
   .ret))
   (.skip))) (
 sq (sq (.reg [
    mF 40 2 1,
    mL 41 40,
    O 42 (.len false (.t 41)),
    O 43 (.bin .gtr (.t 42) (.c (I 400)))] [42,41,40]) (
  .cond (.t 43) (sq (.reg [
     mI 2 5] []) (
   .ret))
   (.skip))) (
 sq (sq (.reg [
    mI 4 0] []) (
  .block 2 (
   .loop [1,4] qDm))) (
 sq (sq (.reg [
    mF 58 2 1,
    mL 59 58,
    O 60 (.call 0 595 [.t 59]),
    O 61 (.un .not (.t 60))] [60,59,1,58]) (
  .cond (.t 61) (sq (.reg [
     mI 2 10] []) (
   .ret))
   (.skip))) (
 sq (.reg [
   mI 2 0] []) (
 .ret))))))))⟩
def qID:PC :=
 sq (sq (.reg [
    mM 21 3,
    mM 22 0,
    O 23 (.len true (.t 22)),
    O 24 (.bin .lss (.t 21) (.t 23))] [23,22,21]) (
  .cond (.t 24) (.skip)
   (.exit 0))) (
 sq (.block 1 (
   sq (.reg [
     mM 27 0,
     mM 28 3,
     O 29 (.idxS (.t 27) (.t 28)),
     O 30 (.bin .lss (.t 29) (.c (.i .u8 97))),
     mM 31 30,
     OG 32 31 false (.mov (.t 0)),
     OG 33 31 false (.mov (.t 3)),
     OG 34 31 false (.idxS (.t 32) (.t 33)),
     OG 35 31 false (.bin .gtr (.t 34) (.c (.i .u8 122))),
     O 36 (.pick (.t 31) (.c (.b true)) (.t 35)),
     mM 37 36,
     OG 38 37 true (.mov (.t 0)),
     OG 39 37 true (.mov (.t 3)),
     OG 40 37 true (.idxS (.t 38) (.t 39)),
     OG 41 37 true (.bin .lss (.t 40) (.c (.i .u8 48))),
     OG 42 37 true (.mov (.t 41)),
     OG 43 42 false (.mov (.t 0)),
     OG 44 42 false (.mov (.t 3)),
     OG 45 42 false (.idxS (.t 43) (.t 44)),
     OG 46 42 false (.bin .gtr (.t 45) (.c (.i .u8 57))),
     OG 47 37 true (.pick (.t 42) (.c (.b true)) (.t 46)),
     O 48 (.pick (.t 37) (.t 47) (.c (.b false))),
     mM 49 48,
     OG 50 49 true (.mov (.t 0)),
     OG 51 49 true (.mov (.t 3)),
     OG 52 49 true (.idxS (.t 50) (.t 51)),
     OG 53 49 true (.bin .neq (.t 52) (.c (.i .u8 95))),
     O 54 (.pick (.t 49) (.t 53) (.c (.b false)))] [53,52,51,50,49,48,47,46,45,44,43,42,41,40,39,38,37,36,35,34,33,32,31,30,29,28,27]) (
   .cond (.t 54) (sq (.reg [
      O 2 (.mov (.c (.b false)))] []) (
    .ret))
    (.skip)))) (
 .reg [
  mM 25 3,
  O 26 (.bin .add (.t 25) (.c (I 1))),
  mM 3 26] [26,25]))
def qjf:PF:=⟨1,[.t 2],
 sq (.reg [
   O 2 (.mov (.c (.b false)))] [2]) (
 sq (sq (.reg [
    mM 4 0,
    O 5 (.bin .eql (.t 4) (.c (.s []))),
    mM 6 5,
    OG 7 6 false (.mov (.t 0)),
    OG 8 6 false (.len true (.t 7)),
    OG 9 6 false (.bin .gtr (.t 8) (.c (I 16))),
    O 10 (.pick (.t 6) (.c (.b true)) (.t 9)),
    mM 11 10,
    OG 12 11 false (.mov (.t 0)),
    OG 13 11 false (.idxS (.t 12) (.c (I 0))),
    OG 14 11 false (.bin .lss (.t 13) (.c (.i .u8 97))),
    O 15 (.pick (.t 11) (.c (.b true)) (.t 14)),
    mM 16 15,
    OG 17 16 false (.mov (.t 0)),
    OG 18 16 false (.idxS (.t 17) (.c (I 0))),
    OG 19 16 false (.bin .gtr (.t 18) (.c (.i .u8 122))),
    O 20 (.pick (.t 16) (.c (.b true)) (.t 19))] [19,18,17,16,15,14,13,12,11,10,9,8,7,6,5,4]) (
  .cond (.t 20) (sq (.reg [
     O 2 (.mov (.c (.b false)))] []) (
   .ret))
   (.skip))) (
 sq (sq (.reg [
    mI 3 1] []) (
  .block 0 (
   .loop [0,3] qID))) (
 sq (.reg [
   O 2 (.mov (.c (.b true)))] []) (
 .ret))))⟩
def qIY:PC :=
 sq (sq (.reg [
    mM 7 6,
    mM 8 0,
    O 9 (.len false (.t 8)),
    O 10 (.bin .lss (.t 7) (.t 9))] [9,8,7]) (
  .cond (.t 10) (.skip)
   (.exit 0))) (
 sq (.block 1 (
   sq (.reg [
     mM 13 0,
     mM 14 6,
     O 15 (.iaddr (K1 4) (.t 13) (.t 14)),
     mF 16 0 15,
     mL 17 16,
     mM 18 1,
     O 19 (.bin .eql (.t 17) (.t 18))] [18,17,16,15,14,13]) (
   .cond (.t 19) (sq (.reg [
      mM 20 0,
      mM 21 6,
      O 22 (.iaddr (K1 4) (.t 20) (.t 21)),
      O 23 (.load (K1 4) (.t 22)),
      E (.store (K1 4) (.t 4) (.t 23)),
      O 5 (.mov (.c (.b true)))] [23,22,6,21,0,20]) (
    .ret))
    (.skip)))) (
 .reg [
  mM 11 6,
  O 12 (.bin .add (.t 11) (.c (I 1))),
  mM 6 12] [12,11]))
def qk4:PF:=⟨2,[.c 4 (K1 4),.t 5],
 sq (.reg [
   O 4 (.alloc (K1 4) (.a [I 0,I 0,I 0,.s []])),
   O 5 (.mov (.c (.b false)))] [5]) (
 sq (sq (.reg [
    mI 6 0] []) (
  .block 0 (
   .loop [0,1,4,6] qIY))) (
 sq (.reg [
   O 24 (.agg [I 0,I 0,I 0,.s []] []),
   E (.store (K1 4) (.t 4) (.t 24)),
   O 5 (.mov (.c (.b false)))] [24]) (
 .ret)))⟩
def qkq:PF:=⟨3,[.t 6],
 sq (.reg [
   mI 6 0] [6]) (
 sq (.reg [
   mM 10 0,
   mM 11 1,
   O 12 (.call 0 540 [.t 10,.t 11]),
   mM 9 12,
   mX 13 9 0,
   mX 14 9 1,
   O 7 (.alloc (K1 4) (.a [I 0,I 0,I 0,.s []])),
   E (.store (K1 4) (.t 7) (.t 13)),
   mM 8 14] [14,13,9,12,11,10]) (
 sq (sq (.reg [
    mM 15 8,
    O 16 (.un .not (.t 15)),
    mM 17 16,
    OG 18 17 false (.mov (.t 0)),
    OG 19 17 false (.mov (.t 1)),
    OG 20 17 false (.call 0 596 [.t 18,.t 19]),
    O 21 (.pick (.t 17) (.c (.b true)) (.t 20))] [20,1,19,0,18,17,16,8,15]) (
  .cond (.t 21) (sq (.reg [
     mI 6 11] []) (
   .ret))
   (.skip))) (
 sq (sq (.reg [
    mF 22 2 7,
    mL 23 22,
    mM 24 2,
    O 25 (.bin .neq (.t 23) (.t 24))] [2,24,23,7,22]) (
  .cond (.t 25) (sq (.reg [
     mI 6 3] []) (
   .ret))
   (.skip))) (
 sq (.reg [
   mI 6 0] []) (
 .ret)))))⟩
def qKK:PC :=
 sq (sq (.reg [
    mM 8 3,
    mM 9 0,
    O 10 (.len false (.t 9)),
    O 11 (.bin .lss (.t 8) (.t 10))] [10,9,8]) (
  .cond (.t 11) (.skip)
   (.exit 0))) (
 sq (.block 1 (
   sq (.regD [
     mM 14 0,
     mM 15 3,
     O 16 (.bin .sub (.t 15) (.c (I 1))),
     O 17 (.iaddr (K1 19) (.t 14) (.t 16)),
     O 18 (.load (K1 19) (.t 17)),
     mM 19 0,
     mM 20 3,
     O 21 (.iaddr (K1 19) (.t 19) (.t 20)),
     O 22 (.load (K1 19) (.t 21)),
     O 23 (.call 0 597 [.t 18,.t 22]),
     O 24 (.un .not (.t 23))] [0,0,2,7,15,0,0,96,224,511,1023] [23,22,21,20,19,18,17,16,15,14]) (
   .cond (.t 24) (sq (.reg [
      mI 2 10] []) (
    .ret))
    (.skip)))) (
 .reg [
  mM 12 3,
  O 13 (.bin .add (.t 12) (.c (I 1))),
  mM 3 13] [13,12]))
def qHR:PC :=
 sq (sq (.reg [
    mM 25 4,
    mM 26 0,
    O 27 (.len false (.t 26)),
    O 28 (.bin .lss (.t 25) (.t 27))] [27,26,25]) (
  .cond (.t 28) (.skip)
   (.exit 2))) (
 sq (.block 3 (
   sq (.regD [
     mM 31 0,
     mM 32 4,
     O 33 (.iaddr (K1 19) (.t 31) (.t 32)),
     mF 34 0 33,
     mL 35 34,
     mM 36 0,
     mM 37 4,
     O 38 (.bin .sub (.t 37) (.c (I 1))),
     O 39 (.iaddr (K1 19) (.t 36) (.t 38)),
     mF 40 0 39,
     mL 41 40,
     O 42 (.bin .eql (.t 35) (.t 41)),
     mM 43 42,
     OG 44 43 true (.mov (.t 0)),
     OG 45 43 true (.mov (.t 4)),
     OG 46 43 true (.iaddr (K1 19) (.t 44) (.t 45)),
     OG 47 43 true (.faddr 1 (.t 46)),
     OG 48 43 true (.load K0 (.t 47)),
     OG 49 43 true (.mov (.t 0)),
     OG 50 43 true (.mov (.t 4)),
     OG 51 43 true (.bin .sub (.t 50) (.c (I 1))),
     OG 52 43 true (.iaddr (K1 19) (.t 49) (.t 51)),
     OG 53 43 true (.faddr 1 (.t 52)),
     OG 54 43 true (.load K0 (.t 53)),
     OG 55 43 true (.bin .neq (.t 48) (.t 54)),
     O 56 (.pick (.t 43) (.t 55) (.c (.b false)))] [0,0,3,7,15,0,0,64,224,480,992,2047,4095,8191,8191,32767,65535,131071,8191,8191,532479,1843199,3940351,8134655,16777215,33554431] [55,54,53,52,51,50,49,48,47,46,45,44,43,42,41,40,39,38,37,36,35,34,33,32,31]) (
   .cond (.t 56) (sq (.reg [
      mI 2 14] []) (
    .ret))
    (.skip)))) (
 .reg [
  mM 29 4,
  O 30 (.bin .add (.t 29) (.c (I 1))),
  mM 4 30] [30,29]))
def qjD:PF:=⟨1,[.t 2],
 sq (.reg [
   mI 2 0] [2]) (
 sq (sq (.reg [
    mM 5 0,
    O 6 (.len false (.t 5)),
    O 7 (.bin .gtr (.t 6) (.c (I 64)))] [6,5]) (
  .cond (.t 7) (sq (.reg [
     mI 2 5] []) (
   .ret))
   (.skip))) (
 sq (sq (.reg [
    mI 3 1] []) (
  .block 0 (
   .loop [0,3] qKK))) (
 sq (sq (.reg [
    mI 4 1] []) (
  .block 2 (
   .loop [0,4] qHR))) (
 sq (.reg [
   mI 2 0] []) (
 .ret)))))⟩
def qJp:PC :=
 sq (sq (.reg [
    mM 108 14,
    mF 109 17 3,
    mL 110 109,
    O 111 (.len false (.t 110)),
    O 112 (.bin .lss (.t 108) (.t 111))] [111,110,109,108]) (
  .cond (.t 112) (.skip)
   (.exit 0))) (
 sq (.block 1 (
   sq (.reg [
     mF 115 17 3,
     mL 116 115,
     mM 117 14,
     O 118 (.iaddr (K1 10) (.t 116) (.t 117)),
     O 119 (.load (K1 10) (.t 118)),
     O 120 (.call 0 601 [.t 119]),
     mM 15 120] [120,119,118,117,116,115]) (
   sq (.reg [
     mM 121 15,
     O 122 (.bin .neq (.t 121) (.c (I 0)))] [121]) (
   .cond (.t 122) (sq (.reg [
      mM 123 15,
      mM 6 123] [15,123]) (
    .ret))
    (.skip))))) (
 .reg [
  mM 113 14,
  O 114 (.bin .add (.t 113) (.c (I 1))),
  mM 14 114] [114,113]))
def qEK:PC :=
 sq (sq (.reg [
    mM 124 16,
    mF 125 18 3,
    mL 126 125,
    O 127 (.len false (.t 126)),
    O 128 (.bin .lss (.t 124) (.t 127))] [127,126,125,124]) (
  .cond (.t 128) (.skip)
   (.exit 2))) (
 sq (.block 3 (
   sq (.reg [
     mF 131 18 3,
     mL 132 131,
     mM 133 16,
     O 134 (.iaddr (K1 6) (.t 132) (.t 133)),
     O 135 (.load (K1 6) (.t 134)),
     O 136 (.call 0 602 [.t 135]),
     mM 17 136] [136,135,134,133,132,131]) (
   sq (.reg [
     mM 137 17,
     O 138 (.bin .neq (.t 137) (.c (I 0)))] [137]) (
   .cond (.t 138) (sq (.reg [
      mM 139 17,
      mM 6 139] [17,139]) (
    .ret))
    (.skip))))) (
 .reg [
  mM 129 16,
  O 130 (.bin .add (.t 129) (.c (I 1))),
  mM 16 130] [130,129]))
def qjV:PF:=⟨3,[.t 6],
 sq (.reg [
   O 3 (.box (K1 19) (.t 0)),
   mI 6 0] [6,0]) (
 sq (sq (.reg [
    mF 18 0 3,
    mL 19 18,
    O 20 (.call 0 598 [.t 19]),
    O 21 (.un .not (.t 20))] [20,19,18]) (
  .cond (.t 21) (sq (.reg [
     mI 6 4] []) (
   .ret))
   (.skip))) (
 sq (sq (.reg [
    mM 23 1,
    mF 24 1 3,
    mL 25 24,
    O 26 (.call 0 599 [.t 23,.t 25]),
    mM 22 26,
    mX 27 22 0,
    mX 28 22 1,
    O 7 (.alloc (K1 2) (.a [.s [],I 0])),
    E (.store (K1 2) (.t 7) (.t 27)),
    mM 8 28] [7,28,27,22,26,25,24,1,23]) (
  sq (.reg [
    mM 29 8,
    O 30 (.un .not (.t 29))] [8,29]) (
  .cond (.t 30) (sq (.reg [
     mI 6 14] []) (
   .ret))
   (.skip)))) (
 sq (sq (.reg [
    mM 32 2,
    mF 33 2 3,
    mL 34 33,
    O 35 (.call 0 513 [.t 32,.t 34]),
    mM 31 35,
    mX 36 31 0,
    mX 37 31 1,
    O 9 (.alloc (K1 3) (.a [.s [],(.l K0 [] true),(.l K0 [] true)])),
    E (.store (K1 3) (.t 9) (.t 36)),
    mM 10 37] [9,37,36,31,35,34,33,2,32]) (
  sq (.reg [
    mM 38 10,
    O 39 (.un .not (.t 38))] [10,38]) (
  .cond (.t 39) (sq (.reg [
     mI 6 11] []) (
   .ret))
   (.skip)))) (
 sq (.reg [
   mF 40 4 3,
   mL 41 40,
   O 42 (.bin .eql (.t 41) (.c (I 1))),
   mM 43 42,
   OG 44 43 false (.faddr 4 (.t 3)),
   OG 45 43 false (.load K0 (.t 44)),
   OG 46 43 false (.bin .eql (.t 45) (.c (I 3))),
   O 47 (.pick (.t 43) (.c (.b true)) (.t 46)),
   mM 48 47,
   OG 49 48 false (.faddr 4 (.t 3)),
   OG 50 48 false (.load K0 (.t 49)),
   OG 51 48 false (.bin .eql (.t 50) (.c (I 6))),
   O 52 (.pick (.t 48) (.c (.b true)) (.t 51)),
   mM 53 52,
   OG 54 53 false (.faddr 4 (.t 3)),
   OG 55 53 false (.load K0 (.t 54)),
   OG 56 53 false (.bin .eql (.t 55) (.c (I 12))),
   O 57 (.pick (.t 53) (.c (.b true)) (.t 56)),
   mM 11 57] [57,56,55,54,53,52,51,50,49,48,47,46,45,44,43,42,41,40]) (
 sq (sq (.reg [
    mF 58 3 3,
    mL 59 58,
    O 60 (.call 0 544 [.t 59]),
    O 61 (.un .not (.t 60)),
    mM 62 61,
    OG 63 62 false (.mov (.t 11)),
    OG 64 62 false (.un .not (.t 63)),
    O 65 (.pick (.t 62) (.c (.b true)) (.t 64)),
    mM 66 65,
    OG 67 66 false (.faddr 5 (.t 3)),
    OG 68 66 false (.load K0 (.t 67)),
    OG 69 66 false (.bin .lss (.t 68) (.c (I 0))),
    O 70 (.pick (.t 66) (.c (.b true)) (.t 69)),
    mM 71 70,
    OG 72 71 false (.faddr 5 (.t 3)),
    OG 73 71 false (.load K0 (.t 72)),
    OG 74 71 false (.bin .gtr (.t 73) (.c (I 1000000000000))),
    O 75 (.pick (.t 71) (.c (.b true)) (.t 74)),
    mM 76 75,
    OG 77 76 false (.faddr 6 (.t 3)),
    OG 78 76 false (.load K0 (.t 77)),
    OG 79 76 false (.bin .lss (.t 78) (.c (I 0))),
    O 80 (.pick (.t 76) (.c (.b true)) (.t 79)),
    mM 81 80,
    OG 82 81 false (.faddr 6 (.t 3)),
    OG 83 81 false (.load K0 (.t 82)),
    OG 84 81 false (.bin .gtr (.t 83) (.c (I 1000000))),
    O 85 (.pick (.t 81) (.c (.b true)) (.t 84))] [84,83,82,81,80,79,78,77,76,75,74,73,72,71,70,69,68,67,66,65,64,11,63,62,61,60,59,58]) (
  .cond (.t 85) (sq (.reg [
     mI 6 1] []) (
   .ret))
   (.skip))) (
 sq (sq (.reg [
    mF 86 7 3,
    O 87 (.load (K1 5) (.t 86)),
    O 88 (.call 0 600 [.t 87]),
    mM 12 88] [88,87,86]) (
  sq (.reg [
    mM 89 12,
    O 90 (.bin .neq (.t 89) (.c (I 0)))] [89]) (
  .cond (.t 90) (sq (.reg [
     mM 91 12,
     mM 6 91] [12,91]) (
   .ret))
   (.skip)))) (
 sq (sq (.reg [
    mF 92 12 3,
    O 93 (.load (K1 5) (.t 92)),
    O 94 (.call 0 600 [.t 93]),
    mM 13 94] [94,93,92]) (
  sq (.reg [
    mM 95 13,
    O 96 (.bin .neq (.t 95) (.c (I 0)))] [95]) (
  .cond (.t 96) (sq (.reg [
     mM 97 13,
     mM 6 97] [13,97]) (
   .ret))
   (.skip)))) (
 sq (sq (.reg [
    mF 98 17 3,
    mL 99 98,
    O 100 (.len false (.t 99)),
    O 101 (.bin .gtr (.t 100) (.c (I 4))),
    mM 102 101,
    OG 103 102 false (.faddr 18 (.t 3)),
    OG 104 102 false (.load K0 (.t 103)),
    OG 105 102 false (.len false (.t 104)),
    OG 106 102 false (.bin .gtr (.t 105) (.c (I 4))),
    O 107 (.pick (.t 102) (.c (.b true)) (.t 106))] [106,105,104,103,102,101,100,99,98]) (
  .cond (.t 107) (sq (.reg [
     mI 6 5] []) (
   .ret))
   (.skip))) (
 sq (sq (.reg [
    mI 14 0] []) (
  .block 0 (
   .loop [3,14] qJp))) (
 sq (sq (.reg [
    mI 16 0] []) (
  .block 2 (
   .loop [3,16] qEK))) (
 sq (.reg [
   mI 6 0] []) (
 .ret))))))))))))⟩
def qjK:PF:=⟨1,[.t 2],
 sq (.reg [
   O 1 (.box (K1 7) (.t 0)),
   O 2 (.mov (.c (.b false)))] [2,0]) (
 sq (.regD [
   mF 3 0 1,
   mL 4 3,
   O 5 (.bin .geq (.t 4) (.c (I 1000))),
   mM 6 5,
   OG 7 6 true (.faddr 0 (.t 1)),
   OG 8 6 true (.load K0 (.t 7)),
   OG 9 6 true (.bin .leq (.t 8) (.c (I 99999999))),
   O 10 (.pick (.t 6) (.t 9) (.c (.b false))),
   mM 11 10,
   OG 12 11 true (.faddr 1 (.t 1)),
   OG 13 11 true (.load K0 (.t 12)),
   OG 14 11 true (.call 0 544 [.t 13]),
   O 15 (.pick (.t 11) (.t 14) (.c (.b false))),
   mM 16 15,
   OG 17 16 true (.faddr 6 (.t 1)),
   OG 18 16 true (.load K0 (.t 17)),
   OG 19 16 true (.faddr 0 (.t 1)),
   OG 20 16 true (.load K0 (.t 19)),
   OG 21 16 true (.call 0 106 [.t 20]),
   OG 22 16 true (.bin .eql (.t 18) (.t 21)),
   O 23 (.pick (.t 16) (.t 22) (.c (.b false))),
   mM 2 23] [0,1,3,7,15,31,63,127,255,511,1023,2047,4095,8191,16383,32767,16383,81919,212991,524287,1048575,2097151] [23,22,21,20,19,18,17,16,15,14,13,12,11,10,9,8,7,6,5,4,1,3]) (
 .ret))⟩
def qjs:PF:=⟨2,[.t 4],
 sq (.reg [
   O 2 (.box (K1 22) (.t 0)),
   O 3 (.box (K1 7) (.t 1)),
   mI 4 0] [4,1,0]) (
 sq (sq (.reg [
    mF 7 4 3,
    mL 8 7,
    O 9 (.call 0 598 [.t 8]),
    O 10 (.un .not (.t 9))] [9,8,7]) (
  .cond (.t 10) (sq (.reg [
     mI 4 4] []) (
   .ret))
   (.skip))) (
 sq (sq (.reg [
    mF 12 17 2,
    mL 13 12,
    mF 14 5 3,
    mL 15 14,
    mF 16 1 3,
    mL 17 16,
    O 18 (.call 0 603 [.t 13,.t 15,.t 17]),
    mM 11 18,
    mX 19 11 0,
    mX 20 11 1,
    O 5 (.alloc (K1 19) (.a [.s [],.s [],.s [],I 0,I 0,I 0,I 0,(.l (K1 2) [] true),(.b false),I 0,I 0,(.b false),(.l (K1 2) [] true),(.b false),I 0,I 0,(.b false),(.l (K1 10) [] true),(.l (K1 6) [] true)])),
    E (.store (K1 19) (.t 5) (.t 19)),
    mM 6 20] [5,20,19,11,18,17,16,15,3,14,13,2,12]) (
  sq (.reg [
    mM 21 6,
    O 22 (.un .not (.t 21))] [6,21]) (
  .cond (.t 22) (sq (.reg [
     mI 4 11] []) (
   .ret))
   (.skip)))) (
 sq (.reg [
   mI 4 0] []) (
 .ret))))⟩
def qjS:PF:=⟨1,[.t 2],
 sq (.reg [
   O 1 (.box (K1 6) (.t 0)),
   mI 2 0] [2,0]) (
 sq (sq (.reg [
    mF 3 0 1,
    mL 4 3,
    O 5 (.bin .lss (.t 4) (.c (I 1))),
    mM 6 5,
    OG 7 6 false (.faddr 1 (.t 1)),
    OG 8 6 false (.load K0 (.t 7)),
    OG 9 6 false (.bin .lss (.t 8) (.c (I 1000))),
    O 10 (.pick (.t 6) (.c (.b true)) (.t 9)),
    mM 11 10,
    OG 12 11 false (.faddr 2 (.t 1)),
    OG 13 11 false (.load K0 (.t 12)),
    OG 14 11 false (.bin .lss (.t 13) (.c (I 1))),
    O 15 (.pick (.t 11) (.c (.b true)) (.t 14)),
    mM 16 15,
    OG 17 16 false (.faddr 2 (.t 1)),
    OG 18 16 false (.load K0 (.t 17)),
    OG 19 16 false (.bin .gtr (.t 18) (.c (I 1000000000000))),
    O 20 (.pick (.t 16) (.c (.b true)) (.t 19)),
    mM 21 20,
    OG 22 21 false (.faddr 3 (.t 1)),
    OG 23 21 false (.load K0 (.t 22)),
    OG 24 21 false (.call 0 544 [.t 23]),
    OG 25 21 false (.un .not (.t 24)),
    O 26 (.pick (.t 21) (.c (.b true)) (.t 25)),
    mM 27 26,
    OG 28 27 false (.faddr 4 (.t 1)),
    OG 29 27 false (.load K0 (.t 28)),
    OG 30 27 false (.call 0 544 [.t 29]),
    OG 31 27 false (.un .not (.t 30)),
    O 32 (.pick (.t 27) (.c (.b true)) (.t 31)),
    mM 33 32,
    OG 34 33 false (.faddr 4 (.t 1)),
    OG 35 33 false (.load K0 (.t 34)),
    OG 36 33 false (.faddr 3 (.t 1)),
    OG 37 33 false (.load K0 (.t 36)),
    OG 38 33 false (.bin .lss (.t 35) (.t 37)),
    O 39 (.pick (.t 33) (.c (.b true)) (.t 38))] [38,37,36,35,34,33,32,31,30,29,28,27,26,25,24,23,22,21,20,19,18,17,16,15,14,13,12,11,10,9,8,7,6,5,4,3]) (
  .cond (.t 39) (sq (.reg [
     mI 2 1] []) (
   .ret))
   (.skip))) (
 sq (sq (.reg [
    mF 40 5 1,
    mL 41 40,
    O 42 (.call 0 607 [.t 41]),
    O 43 (.un .not (.t 42))] [42,41,1,40]) (
  .cond (.t 43) (sq (.reg [
     mI 2 4] []) (
   .ret))
   (.skip))) (
 sq (.reg [
   mI 2 0] []) (
 .ret))))⟩
def qEy:PC :=
 sq (sq (.reg [
    mM 6 5,
    mM 7 0,
    O 8 (.len false (.t 7)),
    O 9 (.bin .lss (.t 6) (.t 8))] [8,7,6]) (
  .cond (.t 9) (.skip)
   (.exit 0))) (
 sq (.block 1 (
   sq (.reg [
     mM 12 0,
     mM 13 5,
     O 14 (.iaddr (K1 6) (.t 12) (.t 13)),
     mF 15 5 14,
     mL 16 15,
     mM 17 1,
     O 18 (.bin .eql (.t 16) (.t 17))] [17,16,15,14,13,12]) (
   .cond (.t 18) (sq (.reg [
      O 4 (.mov (.c (.b true)))] []) (
    .ret))
    (.skip)))) (
 .reg [
  mM 10 5,
  O 11 (.bin .add (.t 10) (.c (I 1))),
  mM 5 11] [11,10]))
def qle:PF:=⟨2,[.t 4],
 sq (.reg [
   O 4 (.mov (.c (.b false)))] [4]) (
 sq (sq (.reg [
    mI 5 0] []) (
  .block 0 (
   .loop [0,1,5] qEy))) (
 sq (.reg [
   O 4 (.mov (.c (.b false)))] []) (
 .ret)))⟩
def qjp:PF:=⟨1,[.t 2],
 sq (.reg [
   O 1 (.box (K1 7) (.t 0)),
   O 2 (.mov (.c (.b false)))] [2,0]) (
 sq (sq (.reg [
    mF 3 0 1,
    mL 4 3,
    O 5 (.bin .lss (.t 4) (.c (I 1))),
    mM 6 5,
    OG 7 6 false (.faddr 1 (.t 1)),
    OG 8 6 false (.load K0 (.t 7)),
    OG 9 6 false (.bin .lss (.t 8) (.c (I 1000))),
    O 10 (.pick (.t 6) (.c (.b true)) (.t 9)),
    mM 11 10,
    OG 12 11 false (.faddr 2 (.t 1)),
    OG 13 11 false (.load K0 (.t 12)),
    OG 14 11 false (.bin .lss (.t 13) (.c (I 1))),
    O 15 (.pick (.t 11) (.c (.b true)) (.t 14)),
    mM 16 15,
    OG 17 16 false (.faddr 2 (.t 1)),
    OG 18 16 false (.load K0 (.t 17)),
    OG 19 16 false (.bin .gtr (.t 18) (.c (I 4))),
    O 20 (.pick (.t 16) (.c (.b true)) (.t 19))] [19,18,17,16,15,14,13,12,11,10,9,8,7,6,5,4,3]) (
  .cond (.t 20) (sq (.reg [
     O 2 (.mov (.c (.b false)))] []) (
   .ret))
   (.skip))) (
 sq (sq (.reg [
    mF 21 2 1,
    mL 22 21,
    O 23 (.bin .eql (.t 22) (.c (I 4))),
    mM 24 23,
    OG 25 24 true (.faddr 3 (.t 1)),
    OG 26 24 true (.load K0 (.t 25)),
    OG 27 24 true (.bin .lss (.t 26) (.c (I 1))),
    OG 28 24 true (.mov (.t 27)),
    OG 29 28 false (.faddr 3 (.t 1)),
    OG 30 28 false (.load K0 (.t 29)),
    OG 31 28 false (.bin .gtr (.t 30) (.c (I 1000000000000))),
    OG 32 24 true (.pick (.t 28) (.c (.b true)) (.t 31)),
    O 33 (.pick (.t 24) (.t 32) (.c (.b false))),
    mM 34 33,
    OG 35 34 false (.faddr 2 (.t 1)),
    OG 36 34 false (.load K0 (.t 35)),
    OG 37 34 false (.bin .neq (.t 36) (.c (I 4))),
    OG 38 34 false (.mov (.t 37)),
    OG 39 38 true (.faddr 3 (.t 1)),
    OG 40 38 true (.load K0 (.t 39)),
    OG 41 38 true (.bin .neq (.t 40) (.c (I 0))),
    OG 42 34 false (.pick (.t 38) (.t 41) (.c (.b false))),
    O 43 (.pick (.t 34) (.c (.b true)) (.t 42))] [42,41,40,39,38,37,36,35,34,33,32,31,30,29,28,27,26,25,24,23,22,21]) (
  .cond (.t 43) (sq (.reg [
     O 2 (.mov (.c (.b false)))] []) (
   .ret))
   (.skip))) (
 sq (.reg [
   mF 44 4 1,
   mL 45 44,
   O 46 (.call 0 544 [.t 45]),
   mM 47 46,
   OG 48 47 true (.faddr 5 (.t 1)),
   OG 49 47 true (.load K0 (.t 48)),
   OG 50 47 true (.call 0 544 [.t 49]),
   O 51 (.pick (.t 47) (.t 50) (.c (.b false))),
   mM 52 51,
   OG 53 52 true (.faddr 4 (.t 1)),
   OG 54 52 true (.load K0 (.t 53)),
   OG 55 52 true (.faddr 5 (.t 1)),
   OG 56 52 true (.load K0 (.t 55)),
   OG 57 52 true (.bin .leq (.t 54) (.t 56)),
   O 58 (.pick (.t 52) (.t 57) (.c (.b false))),
   mM 2 58] [58,57,56,55,54,53,52,51,50,49,48,47,46,45,1,44]) (
 .ret))))⟩
def qHB:PC :=
 sq (sq (.reg [
    mM 22 3,
    mM 23 0,
    O 24 (.len true (.t 23)),
    O 25 (.bin .lss (.t 22) (.t 24))] [24,23,22]) (
  .cond (.t 25) (.skip)
   (.exit 0))) (
 sq (.block 1 (
   sq (.reg [
     mM 28 0,
     mM 29 3,
     O 30 (.idxS (.t 28) (.t 29)),
     O 31 (.bin .lss (.t 30) (.c (.i .u8 97))),
     mM 32 31,
     OG 33 32 false (.mov (.t 0)),
     OG 34 32 false (.mov (.t 3)),
     OG 35 32 false (.idxS (.t 33) (.t 34)),
     OG 36 32 false (.bin .gtr (.t 35) (.c (.i .u8 122))),
     O 37 (.pick (.t 32) (.c (.b true)) (.t 36)),
     mM 38 37,
     OG 39 38 true (.mov (.t 0)),
     OG 40 38 true (.mov (.t 3)),
     OG 41 38 true (.idxS (.t 39) (.t 40)),
     OG 42 38 true (.bin .lss (.t 41) (.c (.i .u8 48))),
     OG 43 38 true (.mov (.t 42)),
     OG 44 43 false (.mov (.t 0)),
     OG 45 43 false (.mov (.t 3)),
     OG 46 43 false (.idxS (.t 44) (.t 45)),
     OG 47 43 false (.bin .gtr (.t 46) (.c (.i .u8 57))),
     OG 48 38 true (.pick (.t 43) (.c (.b true)) (.t 47)),
     O 49 (.pick (.t 38) (.t 48) (.c (.b false))),
     mM 50 49,
     OG 51 50 true (.mov (.t 0)),
     OG 52 50 true (.mov (.t 3)),
     OG 53 50 true (.idxS (.t 51) (.t 52)),
     OG 54 50 true (.bin .neq (.t 53) (.c (.i .u8 95))),
     O 55 (.pick (.t 50) (.t 54) (.c (.b false)))] [54,53,52,51,50,49,48,47,46,45,44,43,42,41,40,39,38,37,36,35,34,33,32,31,30,29,28]) (
   .cond (.t 55) (sq (.reg [
      O 2 (.mov (.c (.b false)))] []) (
    .ret))
    (.skip)))) (
 .reg [
  mM 26 3,
  O 27 (.bin .add (.t 26) (.c (I 1))),
  mM 3 27] [27,26]))
def qkR:PF:=⟨1,[.t 2],
 sq (.reg [
   O 2 (.mov (.c (.b false)))] [2]) (
 sq (sq (.reg [
    mM 4 0,
    O 5 (.len true (.t 4)),
    O 6 (.bin .lss (.t 5) (.c (I 1))),
    mM 7 6,
    OG 8 7 false (.mov (.t 0)),
    OG 9 7 false (.len true (.t 8)),
    OG 10 7 false (.bin .gtr (.t 9) (.c (I 16))),
    O 11 (.pick (.t 7) (.c (.b true)) (.t 10)),
    mM 12 11,
    OG 13 12 false (.mov (.t 0)),
    OG 14 12 false (.idxS (.t 13) (.c (I 0))),
    OG 15 12 false (.bin .lss (.t 14) (.c (.i .u8 97))),
    O 16 (.pick (.t 12) (.c (.b true)) (.t 15)),
    mM 17 16,
    OG 18 17 false (.mov (.t 0)),
    OG 19 17 false (.idxS (.t 18) (.c (I 0))),
    OG 20 17 false (.bin .gtr (.t 19) (.c (.i .u8 122))),
    O 21 (.pick (.t 17) (.c (.b true)) (.t 20))] [20,19,18,17,16,15,14,13,12,11,10,9,8,7,6,5,4]) (
  .cond (.t 21) (sq (.reg [
     O 2 (.mov (.c (.b false)))] []) (
   .ret))
   (.skip))) (
 sq (sq (.reg [
    mI 3 0] []) (
  .block 0 (
   .loop [0,3] qHB))) (
 sq (.reg [
   O 2 (.mov (.c (.b true)))] []) (
 .ret))))⟩
def qH8:PC :=
 sq (sq (.reg [
    mM 4 3,
    mM 5 0,
    O 6 (.len false (.t 5)),
    O 7 (.bin .lss (.t 4) (.t 6))] [6,5,4]) (
  .cond (.t 7) (.skip)
   (.exit 0))) (
 sq (.block 1 (
   sq (.regD [
     mM 10 0,
     mM 11 3,
     O 12 (.iaddr K0 (.t 10) (.t 11)),
     mL 13 12,
     mM 14 0,
     mM 15 3,
     O 16 (.bin .sub (.t 15) (.c (I 1))),
     O 17 (.iaddr K0 (.t 14) (.t 16)),
     mL 18 17,
     O 19 (.bin .leq (.t 13) (.t 18))] [0,0,3,7,0,0,32,112,240,511] [18,17,16,15,14,13,12,11,10]) (
   .cond (.t 19) (sq (.reg [
      O 2 (.mov (.c (.b false)))] []) (
    .ret))
    (.skip)))) (
 .reg [
  mM 8 3,
  O 9 (.bin .add (.t 8) (.c (I 1))),
  mM 3 9] [9,8]))
def qk6:PF:=⟨1,[.t 2],
 sq (.reg [
   O 2 (.mov (.c (.b false)))] [2]) (
 sq (sq (.reg [
    mI 3 1] []) (
  .block 0 (
   .loop [0,3] qH8))) (
 sq (.reg [
   O 2 (.mov (.c (.b true)))] []) (
 .ret)))⟩
def qEA:PC :=
 sq (sq (.reg [
    mM 6 5,
    mM 7 0,
    O 8 (.len false (.t 7)),
    O 9 (.bin .lss (.t 6) (.t 8))] [8,7,6]) (
  .cond (.t 9) (.skip)
   (.exit 0))) (
 sq (.block 1 (
   sq (.reg [
     mM 12 0,
     mM 13 5,
     O 14 (.iaddr (K1 4) (.t 12) (.t 13)),
     mF 15 1 14,
     mL 16 15,
     mM 17 1,
     O 18 (.bin .eql (.t 16) (.t 17))] [17,16,15,14,13,12]) (
   .cond (.t 18) (sq (.reg [
      O 4 (.mov (.c (.b true)))] []) (
    .ret))
    (.skip)))) (
 .reg [
  mM 10 5,
  O 11 (.bin .add (.t 10) (.c (I 1))),
  mM 5 11] [11,10]))
def qls:PF:=⟨2,[.t 4],
 sq (.reg [
   O 4 (.mov (.c (.b false)))] [4]) (
 sq (sq (.reg [
    mI 5 0] []) (
  .block 0 (
   .loop [0,1,5] qEA))) (
 sq (.reg [
   O 4 (.mov (.c (.b false)))] []) (
 .ret)))⟩
def qku:PF:=⟨2,[.t 4],
 sq (.reg [
   O 2 (.box (K1 19) (.t 0)),
   O 3 (.box (K1 19) (.t 1)),
   O 4 (.mov (.c (.b false)))] [4,1,0]) (
 sq (.reg [
   mF 5 0 2,
   mL 6 5,
   mF 7 0 3,
   mL 8 7,
   O 9 (.bin .lss (.t 6) (.t 8)),
   mM 10 9,
   OG 11 10 false (.faddr 0 (.t 2)),
   OG 12 10 false (.load K0 (.t 11)),
   OG 13 10 false (.faddr 0 (.t 3)),
   OG 14 10 false (.load K0 (.t 13)),
   OG 15 10 false (.bin .eql (.t 12) (.t 14)),
   OG 16 10 false (.mov (.t 15)),
   OG 17 16 true (.faddr 3 (.t 2)),
   OG 18 16 true (.load K0 (.t 17)),
   OG 19 16 true (.faddr 3 (.t 3)),
   OG 20 16 true (.load K0 (.t 19)),
   OG 21 16 true (.bin .lss (.t 18) (.t 20)),
   OG 22 10 false (.pick (.t 16) (.t 21) (.c (.b false))),
   O 23 (.pick (.t 10) (.c (.b true)) (.t 22)),
   mM 4 23] [23,22,21,20,19,18,17,16,15,14,13,12,11,10,9,8,3,7,6,2,5]) (
 .ret))⟩
def qGA:PC :=
 sq (sq (.reg [
    mM 21 3,
    mM 22 0,
    O 23 (.len true (.t 22)),
    O 24 (.bin .lss (.t 21) (.t 23))] [23,22,21]) (
  .cond (.t 24) (.skip)
   (.exit 0))) (
 sq (.block 1 (
   sq (.reg [
     mM 27 0,
     mM 28 3,
     O 29 (.idxS (.t 27) (.t 28)),
     O 30 (.bin .lss (.t 29) (.c (.i .u8 97))),
     mM 31 30,
     OG 32 31 false (.mov (.t 0)),
     OG 33 31 false (.mov (.t 3)),
     OG 34 31 false (.idxS (.t 32) (.t 33)),
     OG 35 31 false (.bin .gtr (.t 34) (.c (.i .u8 122))),
     O 36 (.pick (.t 31) (.c (.b true)) (.t 35)),
     mM 37 36,
     OG 38 37 true (.mov (.t 0)),
     OG 39 37 true (.mov (.t 3)),
     OG 40 37 true (.idxS (.t 38) (.t 39)),
     OG 41 37 true (.bin .lss (.t 40) (.c (.i .u8 48))),
     OG 42 37 true (.mov (.t 41)),
     OG 43 42 false (.mov (.t 0)),
     OG 44 42 false (.mov (.t 3)),
     OG 45 42 false (.idxS (.t 43) (.t 44)),
     OG 46 42 false (.bin .gtr (.t 45) (.c (.i .u8 57))),
     OG 47 37 true (.pick (.t 42) (.c (.b true)) (.t 46)),
     O 48 (.pick (.t 37) (.t 47) (.c (.b false))),
     mM 49 48,
     OG 50 49 true (.mov (.t 0)),
     OG 51 49 true (.mov (.t 3)),
     OG 52 49 true (.idxS (.t 50) (.t 51)),
     OG 53 49 true (.bin .neq (.t 52) (.c (.i .u8 95))),
     O 54 (.pick (.t 49) (.t 53) (.c (.b false)))] [53,52,51,50,49,48,47,46,45,44,43,42,41,40,39,38,37,36,35,34,33,32,31,30,29,28,27]) (
   .cond (.t 54) (sq (.reg [
      O 2 (.mov (.c (.b false)))] []) (
    .ret))
    (.skip)))) (
 .reg [
  mM 25 3,
  O 26 (.bin .add (.t 25) (.c (I 1))),
  mM 3 26] [26,25]))
def qlz:PF:=⟨1,[.t 2],
 sq (.reg [
   O 2 (.mov (.c (.b false)))] [2]) (
 sq (sq (.reg [
    mM 4 0,
    O 5 (.bin .eql (.t 4) (.c (.s []))),
    mM 6 5,
    OG 7 6 false (.mov (.t 0)),
    OG 8 6 false (.len true (.t 7)),
    OG 9 6 false (.bin .gtr (.t 8) (.c (I 16))),
    O 10 (.pick (.t 6) (.c (.b true)) (.t 9)),
    mM 11 10,
    OG 12 11 false (.mov (.t 0)),
    OG 13 11 false (.idxS (.t 12) (.c (I 0))),
    OG 14 11 false (.bin .lss (.t 13) (.c (.i .u8 97))),
    O 15 (.pick (.t 11) (.c (.b true)) (.t 14)),
    mM 16 15,
    OG 17 16 false (.mov (.t 0)),
    OG 18 16 false (.idxS (.t 17) (.c (I 0))),
    OG 19 16 false (.bin .gtr (.t 18) (.c (.i .u8 122))),
    O 20 (.pick (.t 16) (.c (.b true)) (.t 19))] [19,18,17,16,15,14,13,12,11,10,9,8,7,6,5,4]) (
  .cond (.t 20) (sq (.reg [
     O 2 (.mov (.c (.b false)))] []) (
   .ret))
   (.skip))) (
 sq (sq (.reg [
    mI 3 1] []) (
  .block 0 (
   .loop [0,3] qGA))) (
 sq (.reg [
   O 2 (.mov (.c (.b true)))] []) (
 .ret))))⟩
def qzZ:PC :=
 sq (sq (.reg [
    mM 7 6,
    mM 8 0,
    O 9 (.len false (.t 8)),
    O 10 (.bin .lss (.t 7) (.t 9))] [9,8,7]) (
  .cond (.t 10) (.skip)
   (.exit 0))) (
 sq (.block 1 (
   sq (.reg [
     mM 13 0,
     mM 14 6,
     O 15 (.iaddr (K1 2) (.t 13) (.t 14)),
     mF 16 0 15,
     mL 17 16,
     mM 18 1,
     O 19 (.bin .eql (.t 17) (.t 18))] [18,17,16,15,14,13]) (
   .cond (.t 19) (sq (.reg [
      mM 20 0,
      mM 21 6,
      O 22 (.iaddr (K1 2) (.t 20) (.t 21)),
      O 23 (.load (K1 2) (.t 22)),
      E (.store (K1 2) (.t 4) (.t 23)),
      O 5 (.mov (.c (.b true)))] [23,22,6,21,0,20]) (
    .ret))
    (.skip)))) (
 .reg [
  mM 11 6,
  O 12 (.bin .add (.t 11) (.c (I 1))),
  mM 6 12] [12,11]))
def qlu:PF:=⟨2,[.c 4 (K1 2),.t 5],
 sq (.reg [
   O 4 (.alloc (K1 2) (.a [.s [],I 0])),
   O 5 (.mov (.c (.b false)))] [5]) (
 sq (sq (.reg [
    mI 6 0] []) (
  .block 0 (
   .loop [0,1,4,6] qzZ))) (
 sq (.reg [
   O 24 (.agg [.s [],I 0] []),
   E (.store (K1 2) (.t 4) (.t 24)),
   O 5 (.mov (.c (.b false)))] [24]) (
 .ret)))⟩
def qkw:PF:=⟨1,[.t 2],
 sq (.reg [
   O 1 (.box (K1 5) (.t 0)),
   mI 2 0] [2,0]) (
 sq (sq (.reg [
    mF 4 0 1,
    mL 5 4,
    O 6 (.call 0 676 [.t 5]),
    mM 3 6] [6,5,4]) (
  sq (.reg [
    mM 7 3,
    O 8 (.bin .neq (.t 7) (.c (I 0)))] [7]) (
  .cond (.t 8) (sq (.reg [
     mM 9 3,
     mM 2 9] [3,9]) (
   .ret))
   (.skip)))) (
 sq (sq (.reg [
    mF 10 2 1,
    mL 11 10,
    O 12 (.bin .lss (.t 11) (.c (I 1))),
    mM 13 12,
    OG 14 13 false (.faddr 2 (.t 1)),
    OG 15 13 false (.load K0 (.t 14)),
    OG 16 13 false (.bin .gtr (.t 15) (.c (I 4))),
    O 17 (.pick (.t 13) (.c (.b true)) (.t 16)),
    mM 18 17,
    OG 19 18 false (.faddr 3 (.t 1)),
    OG 20 18 false (.load K0 (.t 19)),
    OG 21 18 false (.bin .lss (.t 20) (.c (I 1))),
    O 22 (.pick (.t 18) (.c (.b true)) (.t 21)),
    mM 23 22,
    OG 24 23 false (.faddr 3 (.t 1)),
    OG 25 23 false (.load K0 (.t 24)),
    OG 26 23 false (.bin .gtr (.t 25) (.c (I 6))),
    O 27 (.pick (.t 23) (.c (.b true)) (.t 26))] [26,25,24,23,22,21,20,19,18,17,16,15,14,13,12,11,1,10]) (
  .cond (.t 27) (sq (.reg [
     mI 2 1] []) (
   .ret))
   (.skip))) (
 sq (.reg [
   mI 2 0] []) (
 .ret))))⟩
def qkI:PF:=⟨1,[.t 2],
 sq (.reg [
   O 1 (.box (K1 10) (.t 0)),
   mI 2 0] [2,0]) (
 sq (sq (.reg [
    mF 4 0 1,
    mL 5 4,
    O 6 (.call 0 598 [.t 5]),
    O 7 (.un .not (.t 6))] [6,5,4]) (
  .cond (.t 7) (sq (.reg [
     mI 2 4] []) (
   .ret))
   (.skip))) (
 sq (sq (.reg [
    mF 8 1 1,
    mL 9 8,
    O 10 (.bin .lss (.t 9) (.c (I 1))),
    mM 11 10,
    OG 12 11 false (.faddr 1 (.t 1)),
    OG 13 11 false (.load K0 (.t 12)),
    OG 14 11 false (.bin .gtr (.t 13) (.c (I 4))),
    O 15 (.pick (.t 11) (.c (.b true)) (.t 14))] [14,13,12,11,10,9,8]) (
  .cond (.t 15) (sq (.reg [
     mI 2 1] []) (
   .ret))
   (.skip))) (
 sq (sq (.regD [
    mF 16 2 1,
    O 17 (.load (K1 4) (.t 16)),
    O 18 (.call 0 678 []),
    O 19 (.call 0 677 [.t 17,.t 18,(.c (I 5))]),
    mM 3 19] [0,1,0,7,15] [19,18,17,16]) (
  sq (.reg [
    mM 20 3,
    O 21 (.bin .neq (.t 20) (.c (I 0)))] [20]) (
  .cond (.t 21) (sq (.reg [
     mM 22 3,
     mM 2 22] [3,22]) (
   .ret))
   (.skip)))) (
 sq (.regD [
   mF 23 6 1,
   O 24 (.load (K1 4) (.t 23)),
   O 25 (.call 0 678 []),
   O 26 (.call 0 677 [.t 24,.t 25,(.c (I 2))]),
   mM 2 26] [0,1,0,7,15] [26,25,24,1,23]) (
 .ret)))))⟩
def qkl:PF:=⟨1,[.t 2],
 sq (.reg [
   O 1 (.box (K1 6) (.t 0)),
   mI 2 0] [2,0]) (
 sq (sq (.reg [
    mF 3 0 1,
    mL 4 3,
    O 5 (.call 0 598 [.t 4]),
    O 6 (.un .not (.t 5))] [5,4,3]) (
  .cond (.t 6) (sq (.reg [
     mI 2 4] []) (
   .ret))
   (.skip))) (
 sq (sq (.reg [
    mF 7 1 1,
    mL 8 7,
    O 9 (.bin .lss (.t 8) (.c (I 1))),
    mM 10 9,
    OG 11 10 false (.faddr 1 (.t 1)),
    OG 12 10 false (.load K0 (.t 11)),
    OG 13 10 false (.bin .gtr (.t 12) (.c (I 3))),
    O 14 (.pick (.t 10) (.c (.b true)) (.t 13))] [13,12,11,10,9,8,7]) (
  .cond (.t 14) (sq (.reg [
     mI 2 1] []) (
   .ret))
   (.skip))) (
 sq (.regD [
   mF 15 2 1,
   O 16 (.load (K1 4) (.t 15)),
   O 17 (.call 0 678 []),
   O 18 (.call 0 677 [.t 16,.t 17,(.c (I 2))]),
   mM 2 18] [0,1,0,7,15] [18,17,16,1,15]) (
 .ret))))⟩
def qJE:PC :=
 sq (sq (.reg [
    mM 8 3,
    mM 9 0,
    O 10 (.len false (.t 9)),
    O 11 (.bin .lss (.t 8) (.t 10))] [10,9,8]) (
  .cond (.t 11) (.skip)
   (.exit 0))) (
 sq (.block 1 (
   sq (.reg [
     mM 14 0,
     mM 15 3,
     O 16 (.iaddr (K1 2) (.t 14) (.t 15)),
     mF 17 0 16,
     mL 18 17,
     O 19 (.bin .lss (.t 18) (.c (I 0))),
     mM 20 19,
     OG 21 20 false (.mov (.t 0)),
     OG 22 20 false (.mov (.t 3)),
     OG 23 20 false (.iaddr (K1 2) (.t 21) (.t 22)),
     OG 24 20 false (.faddr 0 (.t 23)),
     OG 25 20 false (.load K0 (.t 24)),
     OG 26 20 false (.bin .gtr (.t 25) (.c (I 1000000000000))),
     O 27 (.pick (.t 20) (.c (.b true)) (.t 26)),
     mM 28 27,
     OG 29 28 false (.mov (.t 0)),
     OG 30 28 false (.mov (.t 3)),
     OG 31 28 false (.iaddr (K1 2) (.t 29) (.t 30)),
     OG 32 28 false (.faddr 1 (.t 31)),
     OG 33 28 false (.load K0 (.t 32)),
     OG 34 28 false (.bin .lss (.t 33) (.c (I 0))),
     O 35 (.pick (.t 28) (.c (.b true)) (.t 34)),
     mM 36 35,
     OG 37 36 false (.mov (.t 0)),
     OG 38 36 false (.mov (.t 3)),
     OG 39 36 false (.iaddr (K1 2) (.t 37) (.t 38)),
     OG 40 36 false (.faddr 1 (.t 39)),
     OG 41 36 false (.load K0 (.t 40)),
     OG 42 36 false (.bin .gtr (.t 41) (.c (I 1000000))),
     O 43 (.pick (.t 36) (.c (.b true)) (.t 42))] [42,41,40,39,38,37,36,35,34,33,32,31,30,29,28,27,26,25,24,23,22,21,20,19,18,17,16,15,14]) (
   .cond (.t 43) (sq (.reg [
      mI 2 1] []) (
    .ret))
    (.skip)))) (
 .reg [
  mM 12 3,
  O 13 (.bin .add (.t 12) (.c (I 1))),
  mM 3 13] [13,12]))
def qFa:PC :=
 sq (sq (.reg [
    mM 44 4,
    mM 45 0,
    O 46 (.len false (.t 45)),
    O 47 (.bin .lss (.t 44) (.t 46))] [46,45,44]) (
  .cond (.t 47) (.skip)
   (.exit 2))) (
 sq (.block 3 (
   sq (.regD [
     mM 50 0,
     mM 51 4,
     O 52 (.iaddr (K1 2) (.t 50) (.t 51)),
     mF 53 0 52,
     mL 54 53,
     mM 55 0,
     mM 56 4,
     O 57 (.bin .sub (.t 56) (.c (I 1))),
     O 58 (.iaddr (K1 2) (.t 55) (.t 57)),
     mF 59 0 58,
     mL 60 59,
     O 61 (.bin .leq (.t 54) (.t 60))] [0,0,3,7,15,0,0,64,224,480,992,2047] [60,59,58,57,56,55,54,53,52,51,50]) (
   .cond (.t 61) (sq (.reg [
      mI 2 10] []) (
    .ret))
    (.skip)))) (
 .reg [
  mM 48 4,
  O 49 (.bin .add (.t 48) (.c (I 1))),
  mM 4 49] [49,48]))
def qjL:PF:=⟨1,[.t 2],
 sq (.reg [
   mI 2 0] [2]) (
 sq (sq (.reg [
    mM 5 0,
    O 6 (.len false (.t 5)),
    O 7 (.bin .gtr (.t 6) (.c (I 6)))] [6,5]) (
  .cond (.t 7) (sq (.reg [
     mI 2 5] []) (
   .ret))
   (.skip))) (
 sq (sq (.reg [
    mI 3 0] []) (
  .block 0 (
   .loop [0,3] qJE))) (
 sq (sq (.reg [
    mI 4 1] []) (
  .block 2 (
   .loop [0,4] qFa))) (
 sq (sq (.reg [
    mM 62 0,
    O 63 (.len false (.t 62)),
    O 64 (.bin .gtr (.t 63) (.c (I 0))),
    mM 65 64,
    OG 66 65 true (.mov (.t 0)),
    OG 67 65 true (.iaddr (K1 2) (.t 66) (.c (I 0))),
    OG 68 65 true (.faddr 0 (.t 67)),
    OG 69 65 true (.load K0 (.t 68)),
    OG 70 65 true (.bin .neq (.t 69) (.c (I 0))),
    O 71 (.pick (.t 65) (.t 70) (.c (.b false)))] [70,69,68,67,66,65,64,63,0,62]) (
  .cond (.t 71) (sq (.reg [
     mI 2 1] []) (
   .ret))
   (.skip))) (
 sq (.reg [
   mI 2 0] []) (
 .ret))))))⟩
def qjz:PF:=⟨3,[.t 6],
 sq (.reg [
   O 3 (.box (K1 4) (.t 0)),
   mI 6 0] [6,0]) (
 sq (.reg [
   O 10 (.load (K1 4) (.t 3)),
   mM 11 1,
   O 12 (.call 0 769 [.t 10,.t 11]),
   mM 9 12,
   mX 13 9 0,
   mX 14 9 1,
   mM 7 13,
   mM 8 14] [14,13,9,12,1,11,3,10]) (
 sq (sq (.reg [
    mM 15 8,
    O 16 (.bin .neq (.t 15) (.c (I 0)))] [15]) (
  .cond (.t 16) (sq (.reg [
     mM 17 8,
     mM 6 17] [8,17]) (
   .ret))
   (.skip))) (
 sq (sq (.reg [
    mM 18 7,
    mM 19 2,
    O 20 (.bin .neq (.t 18) (.t 19))] [2,19,7,18]) (
  .cond (.t 20) (sq (.reg [
     mI 6 3] []) (
   .ret))
   (.skip))) (
 sq (.reg [
   mI 6 0] []) (
 .ret)))))⟩
def qkM:PF:=⟨0,[.t 0],
 sq (.reg [
   O 0 (.mov (.c (.l (K1 2) [] true)))] [0]) (
 sq (.reg [
   O 1 (.agg [.s [],I 0] [(0,K0,(.c (.s [98,97,108,97,110,99,101]))),(1,K0,(.c (I 2)))]),
   O 2 (.agg [.s [],I 0] [(0,K0,(.c (.s [108,111,119,101,115,116]))),(1,K0,(.c (I 2)))]),
   O 3 (.agg [.s [],I 0] [(0,K0,(.c (.s [118,111,108,117,109,101]))),(1,K0,(.c (I 2)))]),
   O 4 (.agg [.s [],I 0] [(0,K0,(.c (.s [97,109,111,117,110,116]))),(1,K0,(.c (I 2)))]),
   O 5 (.agg [.s [],I 0] [(0,K0,(.c (.s [99,111,117,110,116]))),(1,K0,(.c (I 1)))]),
   O 6 (.agg [.s [],I 0] [(0,K0,(.c (.s [97,103,101]))),(1,K0,(.c (I 1)))]),
   O 7 (.agg [.s [],I 0] [(0,K0,(.c (.s [100,97,121]))),(1,K0,(.c (I 4)))]),
   O 8 (.bsl (K1 2) (.a [.s [],I 0]) 7 [(0,(.t 1)),(1,(.t 2)),(2,(.t 3)),(3,(.t 4)),(4,(.t 5)),(5,(.t 6)),(6,(.t 7))]),
   mM 0 8] [8,7,6,5,4,3,2,1]) (
 .ret))⟩
def qjc:PF:=⟨2,[.t 4,.t 5],
 sq (.reg [
   O 2 (.box (K1 4) (.t 0)),
   mI 4 0,
   mI 5 0] [5,4,0]) (
 sq (.reg [
   O 7 (.load (K1 4) (.t 2)),
   O 8 (.call 0 859 [.t 7]),
   mM 6 8] [8,7]) (
 sq (sq (.reg [
    mM 9 6,
    O 10 (.bin .neq (.t 9) (.c (I 0)))] [9]) (
  .cond (.t 10) (sq (.reg [
     mM 11 6,
     mI 4 0,
     mM 5 11] [6,11]) (
   .ret))
   (.skip))) (
 sq (.reg [
   O 12 (.load (K1 4) (.t 2)),
   mM 13 1,
   O 14 (.call 0 860 [.t 12,.t 13]),
   mX 15 14 0,
   mX 16 14 1,
   mM 4 15,
   mM 5 16] [16,15,14,1,13,2,12]) (
 .ret))))⟩
def ql2:PC :=
 sq (sq (.reg [
    mM 17 4,
    mM 18 3,
    O 19 (.len false (.t 18)),
    O 20 (.bin .lss (.t 17) (.t 19))] [19,18,17]) (
  .cond (.t 20) (.skip)
   (.exit 0))) (
 sq (.block 1 (
   sq (.reg [
     mM 23 3,
     mM 24 4,
     O 25 (.iaddr K0 (.t 23) (.t 24)),
     mL 26 25,
     O 27 (.call 0 923 [.t 26]),
     O 28 (.un .not (.t 27))] [27,26,25,24,23]) (
   .cond (.t 28) (sq (.reg [
      mI 2 4] []) (
    .ret))
    (.skip)))) (
 .reg [
  mM 21 4,
  O 22 (.bin .add (.t 21) (.c (I 1))),
  mM 4 22] [22,21]))
def qgS:PF:=⟨1,[.t 2],
 sq (.reg [
   O 1 (.box (K1 4) (.t 0)),
   mI 2 0] [2,0]) (
 sq (sq (.reg [
    O 5 (.load (K1 4) (.t 1)),
    O 6 (.call 0 919 [.t 5,(.c (I 64))]),
    mM 7 6,
    OG 8 7 false (.load (K1 4) (.t 1)),
    OG 9 7 false (.call 0 920 [.t 8]),
    OG 10 7 false (.bin .gtr (.t 9) (.c (I 8))),
    O 11 (.pick (.t 7) (.c (.b true)) (.t 10))] [10,9,8,7,6,5]) (
  .cond (.t 11) (sq (.reg [
     mI 2 5] []) (
   .ret))
   (.skip))) (
 sq (sq (.reg [
    O 12 (.load (K1 4) (.t 1)),
    O 13 (.call 0 921 [.t 12]),
    O 14 (.un .not (.t 13))] [13,12]) (
  .cond (.t 14) (sq (.reg [
     mI 2 1] []) (
   .ret))
   (.skip))) (
 sq (.reg [
   O 15 (.load (K1 4) (.t 1)),
   O 16 (.call 0 922 [.t 15]),
   mM 3 16] [16,1,15]) (
 sq (sq (.reg [
    mI 4 0] []) (
  .block 0 (
   .loop [3,4] ql2))) (
 sq (.reg [
   mI 2 0] []) (
 .ret))))))⟩
def qk7:PC :=
 sq (sq (.reg [
    mM 23 6,
    mM 24 1,
    O 25 (.len false (.t 24)),
    O 26 (.bin .lss (.t 23) (.t 25))] [25,24,23]) (
  .cond (.t 26) (.skip)
   (.exit 1))) (
 sq (.block 2 (
   sq (sq (.regD [
      mM 29 1,
      mM 30 6,
      O 31 (.iaddr (K1 2) (.t 29) (.t 30)),
      mF 32 0 31,
      mL 33 32,
      mF 34 2 2,
      mL 35 34,
      O 36 (.bin .eql (.t 33) (.t 35)),
      mM 37 36,
      OG 38 37 true (.mov (.t 1)),
      OG 39 37 true (.mov (.t 6)),
      OG 40 37 true (.iaddr (K1 2) (.t 38) (.t 39)),
      OG 41 37 true (.faddr 1 (.t 40)),
      OG 42 37 true (.load K0 (.t 41)),
      OG 43 37 true (.call 0 924 [.t 42]),
      O 44 (.pick (.t 37) (.t 43) (.c (.b false)))] [0,0,3,7,15,0,32,127,255,511,511,2047,4095,8191,16383,32767] [43,42,41,40,39,38,37,36,35,34,33,32,31,30,29]) (
    .cond (.t 44) (sq (.reg [
       mM 45 1,
       mM 46 6,
       O 47 (.iaddr (K1 2) (.t 45) (.t 46)),
       mF 48 1 47,
       mL 49 48,
       mM 4 49,
       mI 5 0] [49,48,47,6,46,1,45]) (
     .ret))
     (.skip))) (
   sq (.regD [
     mM 50 1,
     mM 51 6,
     O 52 (.iaddr (K1 2) (.t 50) (.t 51)),
     mF 53 0 52,
     mL 54 53,
     mF 55 2 2,
     mL 56 55,
     O 57 (.bin .eql (.t 54) (.t 56))] [0,0,3,7,15,0,32,127] [56,55,54,53,52,51,50]) (
   .cond (.t 57) (sq (.reg [
      mI 4 0,
      mI 5 3] []) (
    .ret))
    (.skip))))) (
 .reg [
  mM 27 6,
  O 28 (.bin .add (.t 27) (.c (I 1))),
  mM 6 28] [28,27]))
def qgs:PC :=
 sq (sq (.reg [
    mM 59 8,
    mF 60 3 2,
    mL 61 60,
    O 62 (.len false (.t 61)),
    O 63 (.bin .lss (.t 59) (.t 62))] [62,61,60,59]) (
  .cond (.t 63) (.skip)
   (.exit 3))) (
 sq (.block 4 (
   sq (.reg [
     mF 67 3 2,
     mL 68 67,
     mM 69 8,
     O 70 (.iaddr (K1 4) (.t 68) (.t 69)),
     O 71 (.load (K1 4) (.t 70)),
     mM 72 1,
     O 73 (.call 0 860 [.t 71,.t 72]),
     mM 66 73,
     mX 74 66 0,
     mX 75 66 1,
     mM 9 74,
     mM 10 75] [75,74,66,73,72,71,70,69,68,67]) (
   sq (sq (.reg [
      mM 76 10,
      O 77 (.bin .neq (.t 76) (.c (I 0)))] [76]) (
    .cond (.t 77) (sq (.reg [
       mM 78 10,
       mI 4 0,
       mM 5 78] [10,78]) (
     .ret))
     (.skip))) (
   .reg [
    mM 79 7,
    mM 80 9,
    O 81 (.bsl K0 (I 0) 1 [(0,(.t 80))]),
    O 82 (.app K0 8 (.t 79) (.t 81)),
    mM 7 82] [82,81,9,80,79])))) (
 .reg [
  mM 64 8,
  O 65 (.bin .add (.t 64) (.c (I 1))),
  mM 8 65] [65,64]))
def qgr:PF:=⟨2,[.t 4,.t 5],
 sq (.reg [
   O 2 (.box (K1 4) (.t 0)),
   mI 4 0,
   mI 5 0] [5,4,0]) (
 sq (sq (.reg [
    mF 13 0 2,
    mL 14 13] [13]) (
  .block 0 (
   sq (.reg [
     O 16 (.bin .eql (.t 14) (.c (I 1))),
     mM 15 16] [16]) (
   .cond (.t 15) (sq (.reg [
      mI 4 1,
      mI 5 0] []) (
    .ret))
    (sq (.reg [
      O 18 (.bin .eql (.t 14) (.c (I 2))),
      mM 17 18] [18]) (
    .cond (.t 17) (sq (.reg [
       mI 4 2,
       mI 5 0] []) (
     .ret))
     (sq (.reg [
       O 20 (.bin .eql (.t 14) (.c (I 3))),
       mM 19 20] [20]) (
     .cond (.t 19) (sq (.reg [
        mI 4 3,
        mI 5 0] []) (
      .ret))
      (sq (.reg [
        O 22 (.bin .eql (.t 14) (.c (I 4))),
        mM 21 22] [14,22]) (
      .cond (.t 21) (sq (sq (.reg [
          mI 6 0] []) (
        .block 1 (
         .loop [1,2,6] qk7))) (
       sq (.reg [
         mI 4 0,
         mI 5 4] []) (
       .ret)))
       (.skip))))))))))) (
 sq (.reg [
   O 58 (.bsl K0 (I 0) 0 []),
   mM 7 58] [58]) (
 sq (sq (.reg [
    mI 8 0] []) (
  .block 3 (
   .loop [1,2,7,8] qgs))) (
 sq (.reg [
   mF 84 0 2,
   mL 85 84,
   mM 86 7,
   O 87 (.call 0 925 [.t 85,.t 86]),
   mM 83 87,
   mX 88 83 0,
   mX 89 83 1,
   mM 11 88,
   mM 12 89] [89,88,83,87,7,86,85,2,84]) (
 sq (sq (.reg [
    mM 90 12,
    O 91 (.un .not (.t 90))] [12,90]) (
  .cond (.t 91) (sq (.reg [
     mI 4 0,
     mI 5 3] []) (
   .ret))
   (.skip))) (
 sq (.reg [
   mM 92 11,
   mM 4 92,
   mI 5 0] [11,92]) (
 .ret)))))))⟩
def qEe:PC :=
 sq (sq (.reg [
    mM 5 4,
    mF 6 3 1,
    mL 7 6,
    O 8 (.len false (.t 7)),
    O 9 (.bin .lss (.t 5) (.t 8))] [8,7,6,5]) (
  .cond (.t 9) (.skip)
   (.exit 0))) (
 sq (.block 1 (
   .reg [
    mM 12 3,
    mF 13 3 1,
    mL 14 13,
    mM 15 4,
    O 16 (.iaddr (K1 4) (.t 14) (.t 15)),
    O 17 (.load (K1 4) (.t 16)),
    O 18 (.call 0 920 [.t 17]),
    O 19 (.minmax true [.t 12,.t 18]),
    mM 3 19] [19,18,17,16,15,14,13,12])) (
 .reg [
  mM 10 4,
  O 11 (.bin .add (.t 10) (.c (I 1))),
  mM 4 11] [11,10]))
def qjP:PF:=⟨1,[.t 2],
 sq (.reg [
   O 1 (.box (K1 4) (.t 0)),
   mI 2 0] [2,0]) (
 sq (.reg [
   mI 3 0] []) (
 sq (sq (.reg [
    mI 4 0] []) (
  .block 0 (
   .loop [1,3,4] qEe))) (
 sq (.reg [
   mM 20 3,
   O 21 (.bin .add (.t 20) (.c (I 1))),
   mM 2 21] [21,3,20]) (
 .ret))))⟩
def qFP:PC :=
 sq (sq (.reg [
    mM 34 3,
    mF 35 3 1,
    mL 36 35,
    O 37 (.len false (.t 36)),
    O 38 (.bin .lss (.t 34) (.t 37))] [37,36,35,34]) (
  .cond (.t 38) (.skip)
   (.exit 0))) (
 sq (.block 1 (
   sq (.reg [
     mF 41 3 1,
     mL 42 41,
     mM 43 3,
     O 44 (.iaddr (K1 4) (.t 42) (.t 43)),
     O 45 (.load (K1 4) (.t 44)),
     O 46 (.call 0 921 [.t 45]),
     O 47 (.un .not (.t 46))] [46,45,44,43,42,41]) (
   .cond (.t 47) (sq (.reg [
      O 2 (.mov (.c (.b false)))] []) (
    .ret))
    (.skip)))) (
 .reg [
  mM 39 3,
  O 40 (.bin .add (.t 39) (.c (I 1))),
  mM 3 40] [40,39]))
def qj5:PF:=⟨1,[.t 2],
 sq (.reg [
   O 1 (.box (K1 4) (.t 0)),
   O 2 (.mov (.c (.b false)))] [2,0]) (
 sq (sq (.regD [
    mF 4 3 1,
    mL 5 4,
    O 6 (.len false (.t 5)),
    mF 7 0 1,
    mL 8 7,
    O 9 (.call 0 951 [.t 8]),
    O 10 (.bin .neq (.t 6) (.t 9)),
    mM 11 10,
    OG 12 11 false (.faddr 1 (.t 1)),
    OG 13 11 false (.load K0 (.t 12)),
    OG 14 11 false (.bin .lss (.t 13) (.c (I 0))),
    O 15 (.pick (.t 11) (.c (.b true)) (.t 14)),
    mM 16 15,
    OG 17 16 false (.faddr 1 (.t 1)),
    OG 18 16 false (.load K0 (.t 17)),
    OG 19 16 false (.faddr 0 (.t 1)),
    OG 20 16 false (.load K0 (.t 19)),
    OG 21 16 false (.call 0 952 [.t 20]),
    OG 22 16 false (.bin .gtr (.t 18) (.t 21)),
    O 23 (.pick (.t 16) (.c (.b true)) (.t 22)),
    mM 24 23,
    OG 25 24 false (.faddr 0 (.t 1)),
    OG 26 24 false (.load K0 (.t 25)),
    OG 27 24 false (.bin .neq (.t 26) (.c (I 4))),
    OG 28 24 false (.mov (.t 27)),
    OG 29 28 true (.faddr 2 (.t 1)),
    OG 30 28 true (.load K0 (.t 29)),
    OG 31 28 true (.bin .neq (.t 30) (.c (.s []))),
    OG 32 24 false (.pick (.t 28) (.t 31) (.c (.b false))),
    O 33 (.pick (.t 24) (.c (.b true)) (.t 32))] [0,1,3,0,8,24,63,127,255,511,1023,2047,4095,8191,16383,8191,40959,106495,262143,524287,1048575,2097151,4194303,8388607,16777215,33554431,67108863,134217727,268435455,536870911] [32,31,30,29,28,27,26,25,24,23,22,21,20,19,18,17,16,15,14,13,12,11,10,9,8,7,6,5,4]) (
  .cond (.t 33) (sq (.reg [
     O 2 (.mov (.c (.b false)))] []) (
   .ret))
   (.skip))) (
 sq (sq (.reg [
    mI 3 0] []) (
  .block 0 (
   .loop [1,3] qFP))) (
 sq (.reg [
   O 2 (.mov (.c (.b true)))] []) (
 .ret))))⟩
def qip:PC :=
 sq (sq (.reg [
    mM 28 6,
    mM 29 5,
    O 30 (.len false (.t 29)),
    O 31 (.bin .lss (.t 28) (.t 30))] [30,29,28]) (
  .cond (.t 31) (.skip)
   (.exit 2))) (
 sq (.block 3 (
   .reg [
    mM 34 3,
    mM 35 5,
    mM 36 6,
    O 37 (.iaddr K0 (.t 35) (.t 36)),
    mL 38 37,
    O 39 (.call 0 953 [.t 34,.t 38]),
    mM 3 39] [39,38,37,36,35,34])) (
 .reg [
  mM 32 6,
  O 33 (.bin .add (.t 32) (.c (I 1))),
  mM 6 33] [33,32]))
def qim:PC :=
 sq (sq (.reg [
    mM 15 4,
    mF 16 3 1,
    mL 17 16,
    O 18 (.len false (.t 17)),
    O 19 (.bin .lss (.t 15) (.t 18))] [18,17,16,15]) (
  .cond (.t 19) (.skip)
   (.exit 0))) (
 sq (.block 1 (
   sq (.reg [
     mF 22 3 1,
     mL 23 22,
     mM 24 4,
     O 25 (.iaddr (K1 4) (.t 23) (.t 24)),
     O 26 (.load (K1 4) (.t 25)),
     O 27 (.call 0 922 [.t 26]),
     mM 5 27] [27,26,25,24,23,22]) (
   sq (.reg [
     mI 6 0] []) (
   .block 2 (
    .loop [1,3,4,5,6] qip))))) (
 .reg [
  mM 20 4,
  O 21 (.bin .add (.t 20) (.c (I 1))),
  mM 4 21] [21,20]))
def qi5:PF:=⟨1,[.t 2],
 sq (.reg [
   O 1 (.box (K1 4) (.t 0)),
   O 2 (.mov (.c (.l K0 [] true)))] [2,0]) (
 sq (.reg [
   O 3 (.mov (.c (.l K0 [] true)))] []) (
 sq (sq (.reg [
    mF 7 0 1,
    mL 8 7,
    O 9 (.bin .eql (.t 8) (.c (I 4)))] [8,7]) (
  .cond (.t 9) (.reg [
    mM 10 3,
    mF 11 2 1,
    mL 12 11,
    O 13 (.bsl K0 (.s []) 1 [(0,(.t 12))]),
    O 14 (.app K0 16 (.t 10) (.t 13)),
    mM 3 14] [14,13,12,11,10])
   (.skip))) (
 sq (sq (.reg [
    mI 4 0] []) (
  .block 0 (
   .loop [1,3,4] qim))) (
 sq (.reg [
   mM 40 3,
   mM 2 40] [3,40]) (
 .ret)))))⟩
def qjE:PF:=⟨1,[.t 2],
 sq (.reg [
   O 2 (.mov (.c (.b false)))] [2]) (
 sq (.reg [
   mM 3 0,
   O 4 (.call 0 512 [.t 3]),
   mM 5 4,
   OG 6 5 true (.mov (.t 0)),
   OG 7 5 true (.call 0 954 [.t 6]),
   OG 8 5 true (.un .not (.t 7)),
   O 9 (.pick (.t 5) (.t 8) (.c (.b false))),
   mM 2 9] [9,8,7,6,5,4,0,3]) (
 .ret))⟩
def qkn:PF:=⟨1,[.t 2],
 sq (.reg [
   O 2 (.mov (.c (.b false)))] [2]) (
 sq (.reg [
   mM 3 0,
   O 4 (.bin .geq (.t 3) (.c (I 1))),
   mM 5 4,
   OG 6 5 true (.mov (.t 0)),
   OG 7 5 true (.bin .leq (.t 6) (.c (I 5))),
   O 8 (.pick (.t 5) (.t 7) (.c (.b false))),
   mM 2 8] [8,7,6,5,4,0,3]) (
 .ret))⟩
def qJD:PC :=
 sq (sq (.reg [
    mM 12 6,
    mM 13 1,
    O 14 (.len false (.t 13)),
    O 15 (.bin .lss (.t 12) (.t 14))] [14,13,12]) (
  .cond (.t 15) (.skip)
   (.exit 0))) (
 sq (.block 1 (
   sq (.reg [
     mM 18 1,
     mM 19 6,
     O 20 (.iaddr K0 (.t 18) (.t 19)),
     mL 21 20,
     O 22 (.call 0 924 [.t 21]),
     O 23 (.un .not (.t 22))] [22,21,20,19,18]) (
   .cond (.t 23) (sq (.reg [
      mI 4 0,
      O 5 (.mov (.c (.b false)))] []) (
    .ret))
    (.skip)))) (
 .reg [
  mM 16 6,
  O 17 (.bin .add (.t 16) (.c (I 1))),
  mM 6 17] [17,16]))
def qky:PF:=⟨2,[.t 4,.t 5],
 sq (.reg [
   mI 4 0,
   O 5 (.mov (.c (.b false)))] [5,4]) (
 sq (sq (.reg [
    mM 9 1,
    O 10 (.len false (.t 9)),
    O 11 (.bin .gtr (.t 10) (.c (I 3)))] [10,9]) (
  .cond (.t 11) (sq (.reg [
     mI 4 0,
     O 5 (.mov (.c (.b false)))] []) (
   .ret))
   (.skip))) (
 sq (sq (.reg [
    mI 6 0] []) (
  .block 0 (
   .loop [0,1,6] qJD))) (
 sq (.reg [
   mM 25 0,
   mM 26 1,
   O 27 (.call 0 955 [.t 25,.t 26]),
   mM 24 27,
   mX 28 24 0,
   mX 29 24 1,
   mM 7 28,
   mM 8 29] [29,28,24,27,1,26,0,25]) (
 sq (sq (.reg [
    mM 30 8,
    O 31 (.un .not (.t 30))] [8,30]) (
  .cond (.t 31) (sq (.reg [
     mI 4 0,
     O 5 (.mov (.c (.b false)))] []) (
   .ret))
   (.skip))) (
 sq (.reg [
   mM 32 7,
   mM 4 32,
   O 5 (.mov (.c (.b true)))] [7,32]) (
 .ret))))))⟩
def qla:PF:=⟨1,[.t 2],
 sq (.reg [
   mI 2 0] [2]) (
 sq (.block 0 (
   sq (.reg [
     mM 4 0,
     O 5 (.bin .lss (.t 4) (.c (I 1))),
     mM 6 5,
     OG 7 6 false (.mov (.t 0)),
     OG 8 6 false (.bin .gtr (.t 7) (.c (I 19))),
     O 9 (.pick (.t 6) (.c (.b true)) (.t 8)),
     mM 3 9] [9,8,7,6,5,4]) (
   .cond (.t 3) (sq (.reg [
      O 2 (.mov (.c (I (-1))))] []) (
    .ret))
    (sq (.reg [
      mM 11 0,
      O 12 (.bin .leq (.t 11) (.c (I 4))),
      mM 10 12] [12,11]) (
    .cond (.t 10) (sq (.reg [
       mI 2 0] []) (
     .ret))
     (sq (.reg [
       mM 14 0,
       O 15 (.bin .eql (.t 14) (.c (I 9))),
       mM 16 15,
       OG 17 16 false (.mov (.t 0)),
       OG 18 16 false (.bin .eql (.t 17) (.c (I 16))),
       O 19 (.pick (.t 16) (.c (.b true)) (.t 18)),
       mM 13 19] [19,18,17,16,15,14]) (
     .cond (.t 13) (sq (.reg [
        mI 2 1] []) (
      .ret))
      (sq (.reg [
        mM 21 0,
        O 22 (.bin .eql (.t 21) (.c (I 19))),
        mM 20 22] [22,0,21]) (
      .cond (.t 20) (sq (.reg [
         mI 2 3] []) (
       .ret))
       (.skip)))))))))) (
 sq (.reg [
   mI 2 2] []) (
 .ret)))⟩
def qlB:PF:=⟨1,[.t 2],
 sq (.reg [
   mI 2 0] [2]) (
 sq (sq (.reg [
    mM 3 0] [0]) (
  .block 0 (
   sq (.reg [
     O 5 (.bin .eql (.t 3) (.c (I 1))),
     mM 4 5] [5]) (
   .cond (.t 4) (sq (.reg [
      mI 2 9223372036854775807] []) (
    .ret))
    (sq (.reg [
      O 7 (.bin .eql (.t 3) (.c (I 2))),
      mM 6 7] [7]) (
    .cond (.t 6) (sq (.reg [
       mI 2 1000000000000] []) (
     .ret))
     (sq (.reg [
       O 9 (.bin .eql (.t 3) (.c (I 3))),
       mM 8 9] [3,9]) (
     .cond (.t 8) (sq (.reg [
        mI 2 1000000] []) (
      .ret))
      (.skip))))))))) (
 sq (.reg [
   mI 2 0] []) (
 .ret)))⟩
def qqS:PC :=
 sq (sq (.reg [
    mM 7 5,
    mM 8 0,
    O 9 (.len false (.t 8)),
    O 10 (.bin .lss (.t 7) (.t 9)),
    mM 11 10,
    OG 12 11 true (.mov (.t 0)),
    OG 13 11 true (.mov (.t 5)),
    OG 14 11 true (.iaddr K0 (.t 12) (.t 13)),
    OG 15 11 true (.load K0 (.t 14)),
    OG 16 11 true (.mov (.t 1)),
    OG 17 11 true (.bin .lss (.t 15) (.t 16)),
    O 18 (.pick (.t 11) (.t 17) (.c (.b false)))] [17,16,15,14,13,12,11,10,9,8,7]) (
  .cond (.t 18) (.skip)
   (.exit 0))) (
 .block 1 (
  .reg [
   mM 19 5,
   O 20 (.bin .add (.t 19) (.c (I 1))),
   mM 5 20] [20,19]))
def qj7:PF:=⟨2,[.t 4],
 sq (.reg [
   O 4 (.mov (.c (.l K0 [] true)))] [4]) (
 sq (.reg [
   mI 5 0] []) (
 sq (.block 0 (
   .loop [0,1,5] qqS)) (
 sq (sq (.reg [
    mM 21 5,
    mM 22 0,
    O 23 (.len false (.t 22)),
    O 24 (.bin .lss (.t 21) (.t 23)),
    mM 25 24,
    OG 26 25 true (.mov (.t 0)),
    OG 27 25 true (.mov (.t 5)),
    OG 28 25 true (.iaddr K0 (.t 26) (.t 27)),
    OG 29 25 true (.load K0 (.t 28)),
    OG 30 25 true (.mov (.t 1)),
    OG 31 25 true (.bin .eql (.t 29) (.t 30)),
    O 32 (.pick (.t 25) (.t 31) (.c (.b false)))] [31,30,29,28,27,26,25,24,23,22,21]) (
  .cond (.t 32) (sq (.reg [
     mM 33 0,
     mM 4 33] [0,33]) (
   .ret))
   (.skip))) (
 sq (.reg [
   O 6 (.mov (.c (.l K0 [] true)))] []) (
 sq (.reg [
   mM 34 6,
   mM 35 0,
   mM 36 5,
   O 37 (.sl K0 (.t 35) none (some (.t 36)) none),
   O 38 (.app K0 16 (.t 34) (.t 37)),
   mM 6 38] [38,37,36,35,34]) (
 sq (.reg [
   mM 39 6,
   mM 40 1,
   O 41 (.bsl K0 (.s []) 1 [(0,(.t 40))]),
   O 42 (.app K0 16 (.t 39) (.t 41)),
   mM 6 42] [42,41,1,40,39]) (
 sq (.reg [
   mM 43 6,
   mM 44 0,
   mM 45 5,
   O 46 (.sl K0 (.t 44) (some (.t 45)) none none),
   O 47 (.app K0 16 (.t 43) (.t 46)),
   mM 6 47] [47,46,5,45,0,44,43]) (
 sq (.reg [
   mM 48 6,
   mM 4 48] [6,48]) (
 .ret)))))))))⟩
def qDW:PC :=
 sq (sq (.reg [
    mM 6 4,
    mM 7 3,
    O 8 (.len false (.t 7)),
    O 9 (.bin .lss (.t 6) (.t 8))] [8,7,6]) (
  .cond (.t 9) (.skip)
   (.exit 0))) (
 sq (.block 1 (
   sq (.reg [
     mM 12 3,
     mM 13 4,
     O 14 (.iaddr K0 (.t 12) (.t 13)),
     mL 15 14,
     mM 16 0,
     O 17 (.bin .eql (.t 15) (.t 16))] [16,15,14,13,12]) (
   .cond (.t 17) (sq (.reg [
      O 2 (.mov (.c (.b true)))] []) (
    .ret))
    (.skip)))) (
 .reg [
  mM 10 4,
  O 11 (.bin .add (.t 10) (.c (I 1))),
  mM 4 11] [11,10]))
def qjq:PF:=⟨1,[.t 2],
 sq (.reg [
   O 2 (.mov (.c (.b false)))] [2]) (
 sq (.reg [
   O 5 (.call 0 968 []),
   mM 3 5] [5]) (
 sq (sq (.reg [
    mI 4 0] []) (
  .block 0 (
   .loop [0,3,4] qDW))) (
 sq (.reg [
   O 2 (.mov (.c (.b false)))] []) (
 .ret))))⟩
def qju:PF:=⟨2,[.t 4,.t 5],
 sq (.reg [
   mI 4 0,
   O 5 (.mov (.c (.b false)))] [5,4]) (
 sq (sq (.reg [
    mM 6 0,
    O 7 (.bin .eql (.t 6) (.c (I 9))),
    mM 8 7,
    OG 9 8 true (.mov (.t 1)),
    OG 10 8 true (.len false (.t 9)),
    OG 11 8 true (.bin .eql (.t 10) (.c (I 1))),
    O 12 (.pick (.t 8) (.t 11) (.c (.b false)))] [11,10,9,8,7,6]) (
  .cond (.t 12) (sq (.regD [
     mM 13 1,
     O 14 (.iaddr K0 (.t 13) (.c (I 0))),
     mL 15 14,
     mM 16 1,
     O 17 (.iaddr K0 (.t 16) (.c (I 0))),
     mL 18 17,
     O 19 (.call 0 969 [.t 18]),
     mM 4 15,
     mM 5 19] [0,1,3,0,8,24,56,127,255] [19,18,17,16,15,14,1,13]) (
   .ret))
   (.skip))) (
 sq (sq (.reg [
    mM 20 0,
    O 21 (.bin .eql (.t 20) (.c (I 16))),
    mM 22 21,
    OG 23 22 true (.mov (.t 1)),
    OG 24 22 true (.len false (.t 23)),
    OG 25 22 true (.bin .eql (.t 24) (.c (I 1))),
    O 26 (.pick (.t 22) (.t 25) (.c (.b false)))] [25,24,23,22,21,20]) (
  .cond (.t 26) (sq (.regD [
     mM 27 1,
     O 28 (.iaddr K0 (.t 27) (.c (I 0))),
     mL 29 28,
     O 30 (.bin .eql (.t 29) (.c (I 5))),
     mI 4 5,
     mM 5 30] [0,1,3,7,0,31] [30,29,28,1,27]) (
   .ret))
   (.skip))) (
 sq (sq (.reg [
    mM 31 0,
    O 32 (.bin .eql (.t 31) (.c (I 19))),
    mM 33 32,
    OG 34 33 true (.mov (.t 1)),
    OG 35 33 true (.len false (.t 34)),
    OG 36 33 true (.bin .eql (.t 35) (.c (I 3))),
    O 37 (.pick (.t 33) (.t 36) (.c (.b false)))] [36,35,34,33,32,31]) (
  .cond (.t 37) (sq (.regD [
     mM 38 1,
     O 39 (.iaddr K0 (.t 38) (.c (I 1))),
     mL 40 39,
     mM 41 1,
     O 42 (.iaddr K0 (.t 41) (.c (I 0))),
     mL 43 42,
     O 44 (.bin .eql (.t 43) (.c (I 5))),
     mM 45 44,
     OG 46 45 true (.mov (.t 1)),
     OG 47 45 true (.iaddr K0 (.t 46) (.c (I 1))),
     OG 48 45 true (.load K0 (.t 47)),
     OG 49 45 true (.mov (.t 1)),
     OG 50 45 true (.iaddr K0 (.t 49) (.c (I 2))),
     OG 51 45 true (.load K0 (.t 50)),
     OG 52 45 true (.bin .eql (.t 48) (.t 51)),
     O 53 (.pick (.t 45) (.t 52) (.c (.b false))),
     mM 4 40,
     mM 5 53] [0,1,3,0,8,24,56,120,248,504,1016,248,2296,6392,16376,32760,255,131071] [53,52,51,50,49,48,47,46,45,44,43,42,41,40,39,1,38]) (
   .ret))
   (.skip))) (
 sq (sq (.reg [
    mM 54 1,
    O 55 (.len false (.t 54)),
    O 56 (.bin .eql (.t 55) (.c (I 2)))] [55,54]) (
  .cond (.t 56) (sq (.regD [
     mM 57 0,
     mM 58 1,
     O 59 (.iaddr K0 (.t 58) (.c (I 0))),
     mL 60 59,
     mM 61 1,
     O 62 (.iaddr K0 (.t 61) (.c (I 1))),
     mL 63 62,
     O 64 (.call 0 970 [.t 57,.t 60,.t 63]),
     mX 65 64 0,
     mX 66 64 1,
     mM 4 65,
     mM 5 66] [0,0,2,6,0,16,48,127,255,255,1023,2047] [66,65,64,63,62,61,60,59,1,58,0,57]) (
   .ret))
   (.skip))) (
 sq (.reg [
   mI 4 0,
   O 5 (.mov (.c (.b false)))] []) (
 .ret))))))⟩
def qjF:PF:=⟨0,[.t 0],
 sq (.reg [
   O 0 (.mov (.c (.l K0 [] true)))] [0]) (
 sq (.reg [
   O 1 (.bsl K0 (.s []) 42 [(0,(.c (.s [112,114,111,100,117,99,116]))),(1,(.c (.s [99,117,114,114,101,110,99,121]))),(2,(.c (.s [99,97,108,101,110,100,97,114]))),(3,(.c (.s [102,114,111,109]))),(4,(.c (.s [101,118,101,114,121]))),(5,(.c (.s [111,118,101,114,100,114,97,102,116]))),(6,(.c (.s [116,97,120]))),(7,(.c (.s [99,114,101,100,105,116]))),(8,(.c (.s [100,101,98,105,116]))),(9,(.c (.s [109,97,114,103,105,110,97,108]))),(10,(.c (.s [119,104,111,108,101]))),(11,(.c (.s [97,99,116,51,54,48]))),(12,(.c (.s [97,99,116,51,54,53]))),(13,(.c (.s [97,99,116,117,97,108]))),(14,(.c (.s [116,104,105,114,116,121]))),(15,(.c (.s [100,111,119,110]))),(16,(.c (.s [117,112]))),(17,(.c (.s [102,108,111,111,114]))),(18,(.c (.s [99,101,105,108]))),(19,(.c (.s [104,97,108,102,95,117,112]))),(20,(.c (.s [104,97,108,102,95,101,118,101,110]))),(21,(.c (.s [107,101,101,112]))),(22,(.c (.s [100,114,111,112]))),(23,(.c (.s [102,101,101]))),(24,(.c (.s [108,105,109,105,116]))),(25,(.c (.s [119,104,101,110]))),(26,(.c (.s [97,109,111,117,110,116,95,111,102]))),(27,(.c (.s [115,105,110,103,108,101]))),(28,(.c (.s [100,97,105,108,121]))),(29,(.c (.s [109,111,110,116,104,108,121]))),(30,(.c (.s [109,111,110,116,104]))),(31,(.c (.s [114,101,116,117,114,110]))),(32,(.c (.s [99,108,111,115,101]))),(33,(.c (.s [101,118,101,110,116]))),(34,(.c (.s [105,102]))),(35,(.c (.s [116,104,101,110]))),(36,(.c (.s [101,108,115,101]))),(37,(.c (.s [97,110,100]))),(38,(.c (.s [111,114]))),(39,(.c (.s [110,111,116]))),(40,(.c (.s [109,105,110]))),(41,(.c (.s [109,97,120])))]),
   mM 0 1] [1]) (
 .ret))⟩
def qkB:PF:=⟨1,[.t 2],
 sq (.reg [
   O 2 (.mov (.c (.b false)))] [2]) (
 sq (.reg [
   mM 3 0,
   O 4 (.bin .eql (.t 3) (.c (I 1))),
   mM 5 4,
   OG 6 5 false (.mov (.t 0)),
   OG 7 5 false (.bin .eql (.t 6) (.c (I 2))),
   O 8 (.pick (.t 5) (.c (.b true)) (.t 7)),
   mM 9 8,
   OG 10 9 false (.mov (.t 0)),
   OG 11 9 false (.bin .eql (.t 10) (.c (I 3))),
   O 12 (.pick (.t 9) (.c (.b true)) (.t 11)),
   mM 2 12] [12,11,10,9,8,7,6,5,4,0,3]) (
 .ret))⟩
def qlx:PF:=⟨3,[.t 6,.t 7],
 sq (.reg [
   mI 6 0,
   O 7 (.mov (.c (.b false)))] [7,6]) (
 sq (sq (.reg [
    mM 8 0] [0]) (
  .block 0 (
   sq (.reg [
     O 10 (.bin .eql (.t 8) (.c (I 5))),
     mM 9 10] [10]) (
   .cond (.t 9) (sq (sq (.reg [
       mM 11 1,
       O 12 (.bin .eql (.t 11) (.c (I 4)))] [11]) (
     .cond (.t 12) (sq (.reg [
        mM 13 1,
        mM 14 2,
        O 15 (.bin .eql (.t 14) (.c (I 1))),
        mM 6 13,
        mM 7 15] [15,2,14,1,13]) (
      .ret))
      (.skip))) (
    sq (.reg [
      mM 16 1,
      mM 17 1,
      mM 18 2,
      O 19 (.bin .eql (.t 17) (.t 18)),
      mM 20 19,
      OG 21 20 true (.mov (.t 1)),
      OG 22 20 true (.call 0 969 [.t 21]),
      O 23 (.pick (.t 20) (.t 22) (.c (.b false))),
      mM 6 16,
      mM 7 23] [23,22,21,20,19,2,18,17,1,16]) (
    .ret)))
    (sq (.reg [
      O 25 (.bin .eql (.t 8) (.c (I 6))),
      mM 24 25] [25]) (
    .cond (.t 24) (sq (sq (.reg [
        mM 26 1,
        O 27 (.bin .eql (.t 26) (.c (I 4))),
        mM 28 27,
        OG 29 28 true (.mov (.t 2)),
        OG 30 28 true (.bin .eql (.t 29) (.c (I 4))),
        O 31 (.pick (.t 28) (.t 30) (.c (.b false)))] [30,29,28,27,26]) (
      .cond (.t 31) (sq (.reg [
         mI 6 1,
         O 7 (.mov (.c (.b true)))] []) (
       .ret))
       (.skip))) (
     sq (sq (.reg [
        mM 32 1,
        O 33 (.bin .eql (.t 32) (.c (I 4)))] [32]) (
      .cond (.t 33) (sq (.reg [
         mM 34 1,
         mM 35 2,
         O 36 (.bin .eql (.t 35) (.c (I 1))),
         mM 6 34,
         mM 7 36] [36,2,35,1,34]) (
       .ret))
       (.skip))) (
     sq (.reg [
       mM 37 1,
       mM 38 1,
       mM 39 2,
       O 40 (.bin .eql (.t 38) (.t 39)),
       mM 41 40,
       OG 42 41 true (.mov (.t 1)),
       OG 43 41 true (.call 0 969 [.t 42]),
       O 44 (.pick (.t 41) (.t 43) (.c (.b false))),
       mM 6 37,
       mM 7 44] [44,43,42,41,40,2,39,38,1,37]) (
     .ret))))
     (sq (.reg [
       O 46 (.bin .eql (.t 8) (.c (I 7))),
       mM 45 46] [46]) (
     .cond (.t 45) (sq (.reg [
        mM 47 1,
        mM 48 2,
        O 49 (.call 0 985 [.t 47,.t 48]),
        mX 50 49 0,
        mX 51 49 1,
        mM 6 50,
        mM 7 51] [51,50,49,2,48,1,47]) (
      .ret))
      (sq (.reg [
        O 53 (.bin .eql (.t 8) (.c (I 8))),
        mM 52 53] [53]) (
      .cond (.t 52) (sq (sq (.reg [
          mM 54 1,
          O 55 (.bin .eql (.t 54) (.c (I 2))),
          mM 56 55,
          OG 57 56 true (.mov (.t 2)),
          OG 58 56 true (.bin .eql (.t 57) (.c (I 2))),
          O 59 (.pick (.t 56) (.t 58) (.c (.b false)))] [58,57,56,55,54]) (
        .cond (.t 59) (sq (.reg [
           mI 6 1,
           O 7 (.mov (.c (.b true)))] []) (
         .ret))
         (.skip))) (
       sq (.reg [
         mM 60 1,
         mM 61 1,
         O 62 (.call 0 969 [.t 61]),
         mM 63 62,
         OG 64 63 true (.mov (.t 2)),
         OG 65 63 true (.bin .eql (.t 64) (.c (I 1))),
         O 66 (.pick (.t 63) (.t 65) (.c (.b false))),
         mM 6 60,
         mM 7 66] [66,65,2,64,63,62,61,1,60]) (
       .ret)))
       (sq (sq (.reg [
          O 68 (.bin .eql (.t 8) (.c (I 10))),
          mM 67 68] [68]) (
        .cond (.t 67) (.skip)
         (.reg [
          O 69 (.bin .eql (.t 8) (.c (I 11))),
          mM 67 69] [69]))) (
       .cond (.t 67) (sq (.reg [
          mM 70 1,
          mM 71 2,
          O 72 (.bin .eql (.t 70) (.t 71)),
          mI 6 5,
          mM 7 72] [72,2,71,1,70]) (
        .ret))
        (sq (sq (.reg [
           O 74 (.bin .eql (.t 8) (.c (I 12))),
           mM 73 74] [74]) (
         .cond (.t 73) (.skip)
          (.reg [
           O 75 (.bin .eql (.t 8) (.c (I 13))),
           mM 73 75] [75]))) (
        .cond (.t 73) (sq (.reg [
           mM 76 1,
           mM 77 2,
           O 78 (.bin .eql (.t 76) (.t 77)),
           mM 79 78,
           OG 80 79 true (.mov (.t 1)),
           OG 81 79 true (.bin .neq (.t 80) (.c (I 5))),
           O 82 (.pick (.t 79) (.t 81) (.c (.b false))),
           mI 6 5,
           mM 7 82] [82,81,80,79,78,2,77,1,76]) (
         .ret))
         (sq (sq (.reg [
            O 84 (.bin .eql (.t 8) (.c (I 14))),
            mM 83 84] [84]) (
          .cond (.t 83) (.skip)
           (.reg [
            O 85 (.bin .eql (.t 8) (.c (I 15))),
            mM 83 85] [85]))) (
         .cond (.t 83) (sq (.reg [
            mM 86 1,
            O 87 (.bin .eql (.t 86) (.c (I 5))),
            mM 88 87,
            OG 89 88 true (.mov (.t 2)),
            OG 90 88 true (.bin .eql (.t 89) (.c (I 5))),
            O 91 (.pick (.t 88) (.t 90) (.c (.b false))),
            mI 6 5,
            mM 7 91] [91,90,2,89,88,87,1,86]) (
          .ret))
          (sq (sq (.reg [
             O 93 (.bin .eql (.t 8) (.c (I 17))),
             mM 92 93] [93]) (
           .cond (.t 92) (.skip)
            (.reg [
             O 94 (.bin .eql (.t 8) (.c (I 18))),
             mM 92 94] [8,94]))) (
          .cond (.t 92) (sq (.reg [
             mM 95 1,
             mM 96 1,
             mM 97 2,
             O 98 (.bin .eql (.t 96) (.t 97)),
             mM 99 98,
             OG 100 99 true (.mov (.t 1)),
             OG 101 99 true (.bin .neq (.t 100) (.c (I 5))),
             O 102 (.pick (.t 99) (.t 101) (.c (.b false))),
             mM 6 95,
             mM 7 102] [102,101,100,99,98,2,97,96,1,95]) (
           .ret))
           (.skip))))))))))))))))))) (
 sq (.reg [
   mI 6 0,
   O 7 (.mov (.c (.b false)))] []) (
 .ret)))⟩
def qkx:PF:=⟨2,[.t 4,.t 5],
 sq (.reg [
   mI 4 0,
   O 5 (.mov (.c (.b false)))] [5,4]) (
 sq (sq (.reg [
    mM 6 0,
    O 7 (.call 0 969 [.t 6]),
    O 8 (.un .not (.t 7)),
    mM 9 8,
    OG 10 9 false (.mov (.t 1)),
    OG 11 9 false (.call 0 969 [.t 10]),
    OG 12 9 false (.un .not (.t 11)),
    O 13 (.pick (.t 9) (.c (.b true)) (.t 12))] [12,11,10,9,8,7,6]) (
  .cond (.t 13) (sq (.reg [
     mI 4 0,
     O 5 (.mov (.c (.b false)))] []) (
   .ret))
   (.skip))) (
 sq (sq (.reg [
    mM 14 0,
    O 15 (.bin .eql (.t 14) (.c (I 1)))] [14]) (
  .cond (.t 15) (sq (.reg [
     mM 16 1,
     mM 4 16,
     O 5 (.mov (.c (.b true)))] [1,16]) (
   .ret))
   (.skip))) (
 sq (sq (.reg [
    mM 17 1,
    O 18 (.bin .eql (.t 17) (.c (I 1)))] [17]) (
  .cond (.t 18) (sq (.reg [
     mM 19 0,
     mM 4 19,
     O 5 (.mov (.c (.b true)))] [0,19]) (
   .ret))
   (.skip))) (
 sq (.reg [
   mM 20 0,
   mM 21 1,
   O 22 (.bin .neq (.t 20) (.t 21)),
   mI 4 2,
   mM 5 22] [22,1,21,0,20]) (
 .ret)))))⟩
def qLK:PC :=
 sq (sq (.reg [
    mM 27 3,
    mF 28 1 1,
    mL 29 28,
    O 30 (.len false (.t 29)),
    O 31 (.bin .lss (.t 27) (.t 30))] [30,29,28,27]) (
  .cond (.t 31) (.skip)
   (.exit 0))) (
 sq (.block 1 (
   sq (.regD [
     mF 34 1 1,
     mL 35 34,
     mM 36 3,
     O 37 (.iaddr (K1 3) (.t 35) (.t 36)),
     O 38 (.load (K1 3) (.t 37)),
     O 39 (.call 0 538 [.t 38]),
     O 40 (.bin .neq (.t 39) (.c (I 0))),
     mM 41 40,
     OG 42 41 false (.mov (.t 3)),
     OG 43 41 false (.bin .gtr (.t 42) (.c (I 0))),
     OG 44 41 false (.mov (.t 43)),
     OG 45 44 true (.faddr 1 (.t 1)),
     OG 46 44 true (.load K0 (.t 45)),
     OG 47 44 true (.mov (.t 3)),
     OG 48 44 true (.iaddr (K1 3) (.t 46) (.t 47)),
     OG 49 44 true (.faddr 0 (.t 48)),
     OG 50 44 true (.load K0 (.t 49)),
     OG 51 44 true (.faddr 1 (.t 1)),
     OG 52 44 true (.load K0 (.t 51)),
     OG 53 44 true (.mov (.t 3)),
     OG 54 44 true (.bin .sub (.t 53) (.c (I 1))),
     OG 55 44 true (.iaddr (K1 3) (.t 52) (.t 54)),
     OG 56 44 true (.faddr 0 (.t 55)),
     OG 57 44 true (.load K0 (.t 56)),
     OG 58 44 true (.bin .leq (.t 50) (.t 57)),
     OG 59 41 false (.pick (.t 44) (.t 58) (.c (.b false))),
     O 60 (.pick (.t 41) (.c (.b true)) (.t 59))] [0,1,0,7,15,31,63,127,255,511,1023,2047,4095,2047,16383,32767,65535,2047,133119,2047,526335,1968127,4065279,8259583,16777215,33554431,67108863] [59,58,57,56,55,54,53,52,51,50,49,48,47,46,45,44,43,42,41,40,39,38,37,36,35,34]) (
   .cond (.t 60) (sq (.reg [
      O 2 (.mov (.c (.b false)))] []) (
    .ret))
    (.skip)))) (
 .reg [
  mM 32 3,
  O 33 (.bin .add (.t 32) (.c (I 1))),
  mM 3 33] [33,32]))
def qIx:PC :=
 sq (sq (.reg [
    mM 61 4,
    mF 62 17 1,
    mL 63 62,
    O 64 (.len false (.t 63)),
    O 65 (.bin .lss (.t 61) (.t 64))] [64,63,62,61]) (
  .cond (.t 65) (.skip)
   (.exit 2))) (
 sq (.block 3 (
   sq (.regD [
     mF 68 17 1,
     mL 69 68,
     mM 70 4,
     O 71 (.iaddr (K1 19) (.t 69) (.t 70)),
     O 72 (.load (K1 19) (.t 71)),
     mF 73 0 1,
     mL 74 73,
     mF 75 1 1,
     mL 76 75,
     O 77 (.call 0 543 [.t 72,.t 74,.t 76]),
     O 78 (.bin .neq (.t 77) (.c (I 0)))] [0,1,0,7,15,0,32,0,128,511,1023] [77,76,75,74,73,72,71,70,69,68]) (
   .cond (.t 78) (sq (.reg [
      O 2 (.mov (.c (.b false)))] []) (
    .ret))
    (.skip)))) (
 .reg [
  mM 66 4,
  O 67 (.bin .add (.t 66) (.c (I 1))),
  mM 4 67] [67,66]))
def qhl:PF:=⟨1,[.t 2],
 sq (.reg [
   O 1 (.box (K1 22) (.t 0)),
   O 2 (.mov (.c (.b false)))] [2,0]) (
 sq (sq (.reg [
    O 5 (.load (K1 22) (.t 1)),
    O 6 (.call 0 1090 [.t 5]),
    mM 7 6,
    OG 8 7 false (.faddr 0 (.t 1)),
    OG 9 7 false (.load K0 (.t 8)),
    OG 10 7 false (.call 0 504 [.t 9]),
    OG 11 7 false (.bin .neq (.t 10) (.c (I 0))),
    O 12 (.pick (.t 7) (.c (.b true)) (.t 11)),
    mM 13 12,
    OG 14 13 false (.faddr 2 (.t 1)),
    OG 15 13 false (.load K0 (.t 14)),
    OG 16 13 false (.faddr 3 (.t 1)),
    OG 17 13 false (.load (K1 14) (.t 16)),
    OG 18 13 false (.call 0 506 [.t 15,.t 17]),
    OG 19 13 false (.bin .neq (.t 18) (.c (I 0))),
    O 20 (.pick (.t 13) (.c (.b true)) (.t 19)),
    mM 21 20,
    OG 22 21 false (.faddr 17 (.t 1)),
    OG 23 21 false (.load K0 (.t 22)),
    OG 24 21 false (.call 0 542 [.t 23]),
    OG 25 21 false (.bin .neq (.t 24) (.c (I 0))),
    O 26 (.pick (.t 21) (.c (.b true)) (.t 25))] [25,24,23,22,21,20,19,18,17,16,15,14,13,12,11,10,9,8,7,6,5]) (
  .cond (.t 26) (sq (.reg [
     O 2 (.mov (.c (.b false)))] []) (
   .ret))
   (.skip))) (
 sq (sq (.reg [
    mI 3 0] []) (
  .block 0 (
   .loop [1,3] qLK))) (
 sq (sq (.reg [
    mI 4 0] []) (
  .block 2 (
   .loop [1,4] qIx))) (
 sq (.reg [
   O 79 (.load (K1 22) (.t 1)),
   O 80 (.call 0 508 [.t 79]),
   O 81 (.bin .eql (.t 80) (.c (I 0))),
   mM 82 81,
   OG 83 82 true (.load (K1 22) (.t 1)),
   OG 84 82 true (.call 0 1099 [.t 83]),
   O 85 (.pick (.t 82) (.t 84) (.c (.b false))),
   mM 86 85,
   OG 87 86 true (.faddr 20 (.t 1)),
   OG 88 86 true (.load K0 (.t 87)),
   OG 89 86 true (.call 0 510 [.t 88]),
   OG 90 86 true (.bin .eql (.t 89) (.c (I 0))),
   O 91 (.pick (.t 86) (.t 90) (.c (.b false))),
   mM 92 91,
   OG 93 92 true (.faddr 21 (.t 1)),
   OG 94 92 true (.load K0 (.t 93)),
   OG 95 92 true (.call 0 511 [.t 94]),
   OG 96 92 true (.bin .eql (.t 95) (.c (I 0))),
   O 97 (.pick (.t 92) (.t 96) (.c (.b false))),
   mM 2 97] [97,96,95,94,93,92,91,90,89,88,87,86,85,84,83,82,81,80,1,79]) (
 .ret)))))⟩
def qDQ:PC :=
 sq (sq (.reg [
    mM 50 5,
    mM 51 3,
    O 52 (.bin .lss (.t 50) (.t 51))] [51,50]) (
  .cond (.t 52) (.skip)
   (.exit 2))) (
 sq (.block 3 (
   sq (.regD [
     mF 55 19 1,
     mL 56 55,
     mM 57 5,
     O 58 (.iaddr (K1 10) (.t 56) (.t 57)),
     mF 59 6 58,
     mL 60 59,
     mF 61 6 4,
     mL 62 61,
     O 63 (.bin .eql (.t 60) (.t 62))] [0,1,0,7,15,31,0,64,255] [62,61,60,59,58,57,56,55]) (
   .cond (.t 63) (sq (.reg [
      O 2 (.mov (.c (.b false)))] []) (
    .ret))
    (.skip)))) (
 .reg [
  mM 53 5,
  O 54 (.bin .add (.t 53) (.c (I 1))),
  mM 5 54] [54,53]))
def qKe:PC :=
 sq (sq (.reg [
    mM 6 3,
    mF 7 19 1,
    mL 8 7,
    O 9 (.len false (.t 8)),
    O 10 (.bin .lss (.t 6) (.t 9))] [9,8,7,6]) (
  .cond (.t 10) (.skip)
   (.exit 0))) (
 sq (.block 1 (
   sq (.reg [
     mF 13 19 1,
     mL 14 13,
     mM 15 3,
     O 16 (.iaddr (K1 10) (.t 14) (.t 15)),
     O 17 (.load (K1 10) (.t 16)),
     O 4 (.alloc (K1 10) (.a [I 0,I 0,I 0,I 0,I 0,I 0,.s [],.s [],(.l (K1 3) [] true),(.i .u64 0)])),
     E (.store (K1 10) (.t 4) (.t 17))] [17,16,15,14,13]) (
   sq (sq (.regD [
      mF 18 0 4,
      mL 19 18,
      mM 20 3,
      O 21 (.bin .add (.t 20) (.c (I 1))),
      O 22 (.bin .neq (.t 19) (.t 21)),
      mM 23 22,
      OG 24 23 false (.load (K1 10) (.t 4)),
      OG 25 23 false (.call 0 679 [.t 24]),
      OG 26 23 false (.bin .neq (.t 25) (.c (I 0))),
      O 27 (.pick (.t 23) (.c (.b true)) (.t 26)),
      mM 28 27,
      OG 29 28 false (.mov (.t 3)),
      OG 30 28 false (.bin .gtr (.t 29) (.c (I 0))),
      OG 31 28 false (.mov (.t 30)),
      OG 32 31 true (.faddr 1 (.t 4)),
      OG 33 31 true (.load K0 (.t 32)),
      OG 34 31 true (.faddr 19 (.t 1)),
      OG 35 31 true (.load K0 (.t 34)),
      OG 36 31 true (.mov (.t 3)),
      OG 37 31 true (.bin .sub (.t 36) (.c (I 1))),
      OG 38 31 true (.iaddr (K1 10) (.t 35) (.t 37)),
      OG 39 31 true (.faddr 1 (.t 38)),
      OG 40 31 true (.load K0 (.t 39)),
      OG 41 31 true (.bin .lss (.t 33) (.t 40)),
      OG 42 28 false (.pick (.t 31) (.t 41) (.c (.b false))),
      O 43 (.pick (.t 28) (.c (.b true)) (.t 42)),
      mM 44 43,
      OG 45 44 false (.load (K1 22) (.t 1)),
      OG 46 44 false (.load (K1 10) (.t 4)),
      OG 47 44 false (.call 0 1100 [.t 45,.t 46]),
      OG 48 44 false (.un .not (.t 47)),
      O 49 (.pick (.t 44) (.c (.b true)) (.t 48))] [0,1,0,4,15,31,63,127,255,511,1023,2047,4095,8191,16383,32767,16383,81919,16383,278527,999423,2047999,4145151,8388607,16777215,33554431,67108863,134217727,134217727,536870911,1073741823,2147483647] [48,47,46,45,44,43,42,41,40,39,38,37,36,35,34,33,32,31,30,29,28,27,26,25,24,23,22,21,20,19,18]) (
    .cond (.t 49) (sq (.reg [
       O 2 (.mov (.c (.b false)))] []) (
     .ret))
     (.skip))) (
   sq (.reg [
     mI 5 0] []) (
   .block 2 (
    .loop [1,3,4,5] qDQ)))))) (
 .reg [
  mM 11 3,
  O 12 (.bin .add (.t 11) (.c (I 1))),
  mM 3 12] [12,11]))
def qkT:PF:=⟨1,[.t 2],
 sq (.reg [
   O 1 (.box (K1 22) (.t 0)),
   O 2 (.mov (.c (.b false)))] [2,0]) (
 sq (sq (.reg [
    mI 3 0] []) (
  .block 0 (
   .loop [1,3] qKe))) (
 sq (.reg [
   O 2 (.mov (.c (.b true)))] []) (
 .ret)))⟩
def qLy:PC :=
 sq (sq (.reg [
    mM 13 5,
    mF 14 8 3,
    mL 15 14,
    O 16 (.len false (.t 15)),
    O 17 (.bin .lss (.t 13) (.t 16))] [16,15,14,13]) (
  .cond (.t 17) (.skip)
   (.exit 0))) (
 sq (.block 1 (
   sq (.reg [
     mF 20 8 3,
     mL 21 20,
     mM 22 5,
     O 23 (.iaddr (K1 3) (.t 21) (.t 22)),
     O 24 (.load (K1 3) (.t 23)),
     O 6 (.alloc (K1 3) (.a [I 0,I 0,.s []])),
     E (.store (K1 3) (.t 6) (.t 24))] [24,23,22,21,20]) (
   sq (sq (.reg [
      mF 26 0 2,
      mL 27 26,
      mF 28 2 6,
      mL 29 28,
      O 30 (.call 0 599 [.t 27,.t 29]),
      mM 25 30,
      mX 31 25 0,
      mX 32 25 1,
      O 7 (.alloc (K1 2) (.a [.s [],I 0])),
      E (.store (K1 2) (.t 7) (.t 31)),
      mM 8 32] [7,32,31,25,30,29,28,27,26]) (
    sq (.reg [
      mM 33 8,
      O 34 (.un .not (.t 33))] [8,33]) (
    .cond (.t 34) (sq (.reg [
       O 4 (.mov (.c (.b false)))] []) (
     .ret))
     (.skip)))) (
   sq (sq (.reg [
      mF 35 0 6,
      mL 36 35,
      O 37 (.bin .lss (.t 36) (.c (I 1000)))] [36,35]) (
    .cond (.t 37) (sq (.reg [
       mF 39 2 2,
       mL 40 39,
       mF 41 0 6,
       mL 42 41,
       O 43 (.call 0 540 [.t 40,.t 42]),
       mM 38 43,
       mX 44 38 0,
       mX 45 38 1,
       O 9 (.alloc (K1 4) (.a [I 0,I 0,I 0,.s []])),
       E (.store (K1 4) (.t 9) (.t 44)),
       mM 10 45] [9,45,44,38,43,42,41,40,39]) (
     sq (sq (.regD [
        mM 46 10,
        O 47 (.un .not (.t 46)),
        mM 48 47,
        OG 49 48 false (.faddr 2 (.t 2)),
        OG 50 48 false (.load K0 (.t 49)),
        OG 51 48 false (.faddr 0 (.t 6)),
        OG 52 48 false (.load K0 (.t 51)),
        OG 53 48 false (.call 0 1101 [.t 50,.t 52]),
        OG 54 48 false (.len false (.t 53)),
        OG 55 48 false (.bin .neq (.t 54) (.c (I 1))),
        O 56 (.pick (.t 48) (.c (.b true)) (.t 55)),
        mM 57 56,
        OG 58 57 false (.faddr 2 (.t 2)),
        OG 59 57 false (.load K0 (.t 58)),
        OG 60 57 false (.faddr 0 (.t 6)),
        OG 61 57 false (.load K0 (.t 60)),
        OG 62 57 false (.call 0 1101 [.t 59,.t 61]),
        OG 63 57 false (.iaddr K0 (.t 62) (.c (I 0))),
        OG 64 57 false (.load K0 (.t 63)),
        OG 65 57 false (.faddr 0 (.t 6)),
        OG 66 57 false (.load K0 (.t 65)),
        OG 67 57 false (.bin .neq (.t 64) (.t 66)),
        O 68 (.pick (.t 57) (.c (.b true)) (.t 67))] [0,1,3,7,15,7,39,127,255,511,1023,2047,4095,8191,4095,20479,65535,131071,262143,4095,528383,2097151,4194303] [67,66,65,64,63,62,61,60,59,58,57,56,55,54,53,52,6,51,50,49,48,47,10,46]) (
      .cond (.t 68) (sq (.reg [
         O 4 (.mov (.c (.b false)))] []) (
       .ret))
       (.skip))) (
     .exit 1)))
     (.skip))) (
   sq (.reg [
     O 70 (.load (K1 22) (.t 2)),
     mF 71 0 6,
     mL 72 71,
     mF 73 1 3,
     mL 74 73,
     O 75 (.call 0 1023 [.t 70,.t 72,.t 74]),
     mM 69 75,
     mX 76 69 0,
     mX 77 69 1,
     O 11 (.alloc (K1 19) (.a [.s [],.s [],.s [],I 0,I 0,I 0,I 0,(.l (K1 2) [] true),(.b false),I 0,I 0,(.b false),(.l (K1 2) [] true),(.b false),I 0,I 0,(.b false),(.l (K1 10) [] true),(.l (K1 6) [] true)])),
     E (.store (K1 19) (.t 11) (.t 76)),
     mM 12 77] [77,76,69,75,74,73,72,71,70]) (
   sq (.reg [
     mM 78 12,
     O 79 (.un .not (.t 78)),
     mM 80 79,
     OG 81 80 false (.faddr 1 (.t 11)),
     OG 82 80 false (.load K0 (.t 81)),
     OG 83 80 false (.faddr 2 (.t 6)),
     OG 84 80 false (.load K0 (.t 83)),
     OG 85 80 false (.bin .neq (.t 82) (.t 84)),
     O 86 (.pick (.t 80) (.c (.b true)) (.t 85)),
     mM 87 86,
     OG 88 87 false (.load (K1 22) (.t 2)),
     OG 89 87 false (.faddr 0 (.t 6)),
     OG 90 87 false (.load K0 (.t 89)),
     OG 91 87 false (.faddr 1 (.t 3)),
     OG 92 87 false (.load K0 (.t 91)),
     OG 93 87 false (.call 0 684 [.t 88,.t 90,.t 92]),
     OG 94 87 false (.un .not (.t 93)),
     O 95 (.pick (.t 87) (.c (.b true)) (.t 94))] [94,93,92,91,90,89,88,87,86,85,84,6,83,82,11,81,80,79,12,78]) (
   .cond (.t 95) (sq (.reg [
      O 4 (.mov (.c (.b false)))] []) (
    .ret))
    (.skip)))))))) (
 .reg [
  mM 18 5,
  O 19 (.bin .add (.t 18) (.c (I 1))),
  mM 5 19] [19,18]))
def qjR:PF:=⟨2,[.t 4],
 sq (.reg [
   O 2 (.box (K1 22) (.t 0)),
   O 3 (.box (K1 10) (.t 1)),
   O 4 (.mov (.c (.b false)))] [4,1,0]) (
 sq (sq (.reg [
    mI 5 0] []) (
  .block 0 (
   .loop [2,3,5] qLy))) (
 sq (.reg [
   O 4 (.mov (.c (.b true)))] []) (
 .ret)))⟩
def qnM:PC :=
 sq (sq (.regD [
    mM 35 7,
    O 36 (.bin .gtr (.t 35) (.c (I 0))),
    mM 37 36,
    OG 38 37 true (.mov (.t 5)),
    OG 39 37 true (.mov (.t 7)),
    OG 40 37 true (.bin .sub (.t 39) (.c (I 1))),
    OG 41 37 true (.iaddr K0 (.t 38) (.t 40)),
    OG 42 37 true (.load K0 (.t 41)),
    OG 43 37 true (.mov (.t 0)),
    OG 44 37 true (.mov (.t 6)),
    OG 45 37 true (.iaddr (K1 4) (.t 43) (.t 44)),
    OG 46 37 true (.faddr 0 (.t 45)),
    OG 47 37 true (.load K0 (.t 46)),
    OG 48 37 true (.bin .gtr (.t 42) (.t 47)),
    O 49 (.pick (.t 37) (.t 48) (.c (.b false)))] [0,1,3,7,7,23,63,127,7,7,775,1799,3847,8191,16383] [48,47,46,45,44,43,42,41,40,39,38,37,36,35]) (
  .cond (.t 49) (.skip)
   (.exit 2))) (
 .block 3 (
  .reg [
   mM 50 7,
   O 51 (.bin .sub (.t 50) (.c (I 1))),
   mM 7 51] [51,50]))
def qgH:PC :=
 sq (sq (.reg [
    mM 9 6,
    mM 10 0,
    O 11 (.len false (.t 10)),
    O 12 (.bin .lss (.t 9) (.t 11))] [11,10,9]) (
  .cond (.t 12) (.skip)
   (.exit 0))) (
 sq (.block 1 (
   sq (sq (.reg [
      mM 15 0,
      mM 16 0,
      mM 17 6,
      O 18 (.iaddr (K1 4) (.t 16) (.t 17)),
      mF 19 0 18,
      mL 20 19,
      O 21 (.call 0 596 [.t 15,.t 20]),
      mM 22 21,
      OG 23 22 false (.mov (.t 0)),
      OG 24 22 false (.mov (.t 0)),
      OG 25 22 false (.mov (.t 6)),
      OG 26 22 false (.iaddr (K1 4) (.t 24) (.t 25)),
      OG 27 22 false (.faddr 0 (.t 26)),
      OG 28 22 false (.load K0 (.t 27)),
      OG 29 22 false (.mov (.t 1)),
      OG 30 22 false (.call 0 1102 [.t 23,.t 28,.t 29]),
      OG 31 22 false (.un .not (.t 30)),
      O 32 (.pick (.t 22) (.c (.b true)) (.t 31))] [31,30,29,28,27,26,25,24,23,22,21,20,19,18,17,16,15]) (
    .cond (.t 32) (.exit 1)
     (.skip))) (
   sq (.reg [
     mM 33 5,
     O 34 (.len false (.t 33)),
     mM 7 34] [34,33]) (
   sq (.block 2 (
     .loop [0,1,5,6,7] qnM)) (
   sq (sq (.regD [
      mM 52 7,
      O 53 (.bin .gtr (.t 52) (.c (I 0))),
      mM 54 53,
      OG 55 54 true (.mov (.t 5)),
      OG 56 54 true (.mov (.t 7)),
      OG 57 54 true (.bin .sub (.t 56) (.c (I 1))),
      OG 58 54 true (.iaddr K0 (.t 55) (.t 57)),
      OG 59 54 true (.load K0 (.t 58)),
      OG 60 54 true (.mov (.t 0)),
      OG 61 54 true (.mov (.t 6)),
      OG 62 54 true (.iaddr (K1 4) (.t 60) (.t 61)),
      OG 63 54 true (.faddr 0 (.t 62)),
      OG 64 54 true (.load K0 (.t 63)),
      OG 65 54 true (.bin .eql (.t 59) (.t 64)),
      O 66 (.pick (.t 54) (.t 65) (.c (.b false)))] [0,1,3,7,7,23,63,127,7,7,775,1799,3847,8191,16383] [65,64,63,62,61,60,59,58,57,56,55,54,53,52]) (
    .cond (.t 66) (.exit 1)
     (.skip))) (
   sq (.reg [
     O 67 (.bsl K0 (I 0) 0 []),
     mM 68 5,
     mM 69 7,
     O 70 (.sl K0 (.t 68) none (some (.t 69)) none),
     O 71 (.app K0 8 (.t 67) (.t 70)),
     mM 8 71] [71,70,69,68,67]) (
   sq (.reg [
     mM 72 8,
     mM 73 0,
     mM 74 6,
     O 75 (.iaddr (K1 4) (.t 73) (.t 74)),
     mF 76 0 75,
     mL 77 76,
     O 78 (.bsl K0 (I 0) 1 [(0,(.t 77))]),
     O 79 (.app K0 8 (.t 72) (.t 78)),
     mM 8 79] [79,78,77,76,75,74,73,72]) (
   .reg [
    mM 80 8,
    mM 81 5,
    mM 82 7,
    O 83 (.sl K0 (.t 81) (some (.t 82)) none none),
    O 84 (.app K0 8 (.t 80) (.t 83)),
    mM 5 84] [84,83,7,82,81,8,80])))))))) (
 .reg [
  mM 13 6,
  O 14 (.bin .add (.t 13) (.c (I 1))),
  mM 6 14] [14,13]))
def qjQ:PF:=⟨2,[.t 4],
 sq (.reg [
   O 4 (.mov (.c (.l K0 [] true)))] [4]) (
 sq (.reg [
   O 5 (.mov (.c (.l K0 [] true)))] []) (
 sq (sq (.reg [
    mI 6 0] []) (
  .block 0 (
   .loop [0,1,5,6] qgH))) (
 sq (.reg [
   mM 85 5,
   mM 4 85] [5,85]) (
 .ret))))⟩
def qzX:PC :=
 sq (sq (.reg [
    mM 12 8,
    mM 13 7,
    O 14 (.len false (.t 13)),
    O 15 (.bin .lss (.t 12) (.t 14))] [14,13,12]) (
  .cond (.t 15) (.skip)
   (.exit 0))) (
 sq (.block 1 (
   sq (.reg [
     mM 18 7,
     mM 19 8,
     O 20 (.iaddr K0 (.t 18) (.t 19)),
     mL 21 20,
     mM 22 2,
     O 23 (.bin .eql (.t 21) (.t 22))] [22,21,20,19,18]) (
   .cond (.t 23) (sq (.reg [
      O 6 (.mov (.c (.b true)))] []) (
    .ret))
    (.skip)))) (
 .reg [
  mM 16 8,
  O 17 (.bin .add (.t 16) (.c (I 1))),
  mM 8 17] [17,16]))
def qj9:PF:=⟨3,[.t 6],
 sq (.reg [
   O 6 (.mov (.c (.b false)))] [6]) (
 sq (.reg [
   mM 9 0,
   mM 10 1,
   O 11 (.call 0 1103 [.t 9,.t 10]),
   mM 7 11] [11,1,10,0,9]) (
 sq (sq (.reg [
    mI 8 0] []) (
  .block 0 (
   .loop [2,7,8] qzX))) (
 sq (.reg [
   O 6 (.mov (.c (.b false)))] []) (
 .ret))))⟩
def qhb:PC :=
 sq (sq (.reg [
    mM 14 7,
    mM 15 14,
    OG 16 15 true (.mov (.t 5)),
    OG 17 15 true (.len false (.t 16)),
    OG 18 15 true (.bin .lss (.t 17) (.c (I 40))),
    O 19 (.pick (.t 15) (.t 18) (.c (.b false)))] [18,17,16,15,7,14]) (
  .cond (.t 19) (.skip)
   (.exit 0))) (
 .block 1 (
  sq (.reg [
    mF 20 0 6,
    mL 21 20,
    O 22 (.bsl K0 (I 0) 1 [(0,(.t 21))]),
    mM 23 5,
    O 24 (.app K0 8 (.t 22) (.t 23)),
    mM 5 24] [24,23,22,21,20]) (
  sq (sq (.reg [
     mF 25 1 6,
     mL 26 25,
     O 27 (.bin .eql (.t 26) (.c (I 0)))] [26,25]) (
   .cond (.t 27) (sq (.reg [
      mM 28 5,
      mM 4 28] [5,28]) (
    .ret))
    (.skip))) (
  .reg [
   mM 30 0,
   mF 31 1 6,
   mL 32 31,
   O 33 (.call 0 540 [.t 30,.t 32]),
   mM 29 33,
   mX 34 29 0,
   mX 35 29 1,
   E (.store (K1 4) (.t 6) (.t 34)),
   mM 7 35] [35,34,29,33,32,31,30]))))
def qjv:PF:=⟨2,[.t 4],
 sq (.reg [
   O 4 (.mov (.c (.l K0 [] true)))] [4]) (
 sq (.reg [
   O 5 (.mov (.c (.l K0 [] true)))] []) (
 sq (.reg [
   mM 9 0,
   mM 10 1,
   O 11 (.call 0 540 [.t 9,.t 10]),
   mM 8 11,
   mX 12 8 0,
   mX 13 8 1,
   O 6 (.alloc (K1 4) (.a [I 0,I 0,I 0,.s []])),
   E (.store (K1 4) (.t 6) (.t 12)),
   mM 7 13] [13,12,8,11,1,10,9]) (
 sq (.block 0 (
   .loop [0,5,6,7] qhb)) (
 sq (.reg [
   mM 36 5,
   mM 4 36] [5,36]) (
 .ret)))))⟩
end Go.Sim
end
section
namespace Go.Sim
def qhn:PC :=
 sq (.reg [
   O 11 (.bin .lss (.t 10) (.t 9))] []) (
 sq (.cond (.t 11) (.skip)
   (.exit 0)) (
 sq (.block 1 (
   sq (.reg [
     mM 12 10,
     O 13 (.iaddr (K1 6) (.t 8) (.t 10)),
     O 14 (.load (K1 6) (.t 13)),
     O 4 (.alloc (K1 6) (.a [I 0,I 0,I 0,I 0,I 0,.s []])),
     mM 3 12,
     E (.store (K1 6) (.t 4) (.t 14))] [14,13,12]) (
   .block 2 (
    sq (.reg [
      O 16 (.load (K1 6) (.t 4)),
      O 17 (.call 0 247 [.t 16]),
      O 18 (.un .not (.t 17)),
      mM 15 18] [18,17,16]) (
    .cond (.t 15) (sq (.reg [
       mI 2 1] []) (
     .ret))
     (sq (.reg [
       mF 20 5 4,
       mL 21 20,
       O 22 (.call 0 248 [.t 21]),
       O 23 (.un .not (.t 22)),
       mM 19 23] [23,22,21,20]) (
     .cond (.t 19) (sq (.reg [
        mI 2 4] []) (
      .ret))
      (sq (.regD [
        mM 25 3,
        O 26 (.bin .gtr (.t 25) (.c (I 0))),
        mM 27 26,
        OG 28 27 true (.faddr 0 (.t 4)),
        OG 29 27 true (.load K0 (.t 28)),
        OG 30 27 true (.mov (.t 0)),
        OG 31 27 true (.mov (.t 3)),
        OG 32 27 true (.bin .sub (.t 31) (.c (I 1))),
        OG 33 27 true (.iaddr (K1 6) (.t 30) (.t 32)),
        OG 34 27 true (.faddr 0 (.t 33)),
        OG 35 27 true (.load K0 (.t 34)),
        OG 36 27 true (.bin .leq (.t 29) (.t 35)),
        O 37 (.pick (.t 27) (.t 36) (.c (.b false))),
        mM 24 37] [0,1,3,7,15,7,7,71,231,487,999,2047,4095,8191] [37,36,35,34,33,32,31,30,29,28,27,26,25]) (
      .cond (.t 24) (sq (.reg [
         mI 2 10] []) (
       .ret))
       (sq (.reg [
         mM 39 0,
         mM 40 3,
         O 41 (.sl (K1 6) (.t 39) none (some (.t 40)) none),
         O 42 (.mkf 250 [.t 4]),
         O 43 (.call 2 249 [.t 41,.t 42]),
         mM 38 43] [43,4,42,41,3,40,39]) (
       .cond (.t 38) (sq (.reg [
          mI 2 12] []) (
        .ret))
        (.skip)))))))))))) (
 .reg [
  O 44 (.bin .add (.t 10) (.c (I 1))),
  mM 10 44] [44])))
def qiR:PF:=⟨1,[.t 2],
 sq (.reg [
   mI 2 0] [2]) (
 sq (sq (.reg [
    mM 5 0,
    O 6 (.len false (.t 5)),
    O 7 (.bin .gtr (.t 6) (.c (I 64)))] [6,5]) (
  .cond (.t 7) (sq (.reg [
     mI 2 5] []) (
   .ret))
   (.skip))) (
 sq (sq (.reg [
    mM 8 0,
    O 9 (.len false (.t 8)),
    mI 10 0] []) (
  .block 0 (
   .loop [0,8,9,10] qhn))) (
 sq (.reg [
   mI 2 0] []) (
 .ret))))⟩
def qkA:PF:=⟨1,[.t 2],
 sq (.reg [
   O 1 (.box (K1 6) (.t 0)),
   O 2 (.mov (.c (.b false)))] [2,0]) (
 sq (.reg [
   mF 3 0 1,
   mL 4 3,
   O 5 (.bin .geq (.t 4) (.c (I 1))),
   mM 6 5,
   OG 7 6 true (.faddr 1 (.t 1)),
   OG 8 6 true (.load K0 (.t 7)),
   OG 9 6 true (.bin .geq (.t 8) (.c (I 1000))),
   O 10 (.pick (.t 6) (.t 9) (.c (.b false))),
   mM 11 10,
   OG 12 11 true (.faddr 2 (.t 1)),
   OG 13 11 true (.load K0 (.t 12)),
   OG 14 11 true (.bin .geq (.t 13) (.c (I 1))),
   O 15 (.pick (.t 11) (.t 14) (.c (.b false))),
   mM 16 15,
   OG 17 16 true (.faddr 2 (.t 1)),
   OG 18 16 true (.load K0 (.t 17)),
   OG 19 16 true (.bin .leq (.t 18) (.c (I 1000000000000))),
   O 20 (.pick (.t 16) (.t 19) (.c (.b false))),
   mM 21 20,
   OG 22 21 true (.faddr 3 (.t 1)),
   OG 23 21 true (.load K0 (.t 22)),
   OG 24 21 true (.call 0 332 [.t 23]),
   O 25 (.pick (.t 21) (.t 24) (.c (.b false))),
   mM 26 25,
   OG 27 26 true (.faddr 4 (.t 1)),
   OG 28 26 true (.load K0 (.t 27)),
   OG 29 26 true (.call 0 332 [.t 28]),
   O 30 (.pick (.t 26) (.t 29) (.c (.b false))),
   mM 31 30,
   OG 32 31 true (.faddr 3 (.t 1)),
   OG 33 31 true (.load K0 (.t 32)),
   OG 34 31 true (.faddr 4 (.t 1)),
   OG 35 31 true (.load K0 (.t 34)),
   OG 36 31 true (.bin .leq (.t 33) (.t 35)),
   O 37 (.pick (.t 31) (.t 36) (.c (.b false))),
   mM 2 37] [37,36,35,34,33,32,31,30,29,28,27,26,25,24,23,22,21,20,19,18,17,16,15,14,13,12,11,10,9,8,7,6,5,4,1,3]) (
 .ret))⟩
def qKU:PC :=
 sq (.reg [
   O 7 (.bin .lss (.t 6) (.t 5))] []) (
 sq (.cond (.t 7) (.skip)
   (.exit 0)) (
 sq (.block 1 (
   sq (.reg [
     mM 8 6,
     mM 3 8] [8]) (
   sq (.reg [
     mM 9 0,
     mM 10 3,
     O 11 (.idxS (.t 9) (.t 10)),
     O 12 (.bin .lss (.t 11) (.c (.i .u8 33))),
     mM 13 12,
     OG 14 13 false (.mov (.t 0)),
     OG 15 13 false (.mov (.t 3)),
     OG 16 13 false (.idxS (.t 14) (.t 15)),
     OG 17 13 false (.bin .gtr (.t 16) (.c (.i .u8 126))),
     O 18 (.pick (.t 13) (.c (.b true)) (.t 17))] [17,16,15,14,13,12,11,3,10,9]) (
   .cond (.t 18) (sq (.reg [
      O 2 (.mov (.c (.b false)))] []) (
    .ret))
    (.skip))))) (
 .reg [
  O 19 (.bin .add (.t 6) (.c (I 1))),
  mM 6 19] [19])))
def qlf:PF:=⟨1,[.t 2],
 sq (.reg [
   O 2 (.mov (.c (.b false)))] [2]) (
 sq (sq (.reg [
    mM 4 0,
    O 5 (.len true (.t 4)),
    mI 6 0] [4]) (
  .block 0 (
   .loop [0,5,6] qKU))) (
 sq (.reg [
   mM 20 0,
   O 21 (.len true (.t 20)),
   O 22 (.bin .geq (.t 21) (.c (I 1))),
   mM 23 22,
   OG 24 23 true (.mov (.t 0)),
   OG 25 23 true (.len true (.t 24)),
   OG 26 23 true (.bin .leq (.t 25) (.c (I 48))),
   O 27 (.pick (.t 23) (.t 26) (.c (.b false))),
   mM 2 27] [27,26,25,24,23,22,21,0,20]) (
 .ret)))⟩
def qj8:PF:=⟨2,[.t 4],
 sq (.reg [
   O 4 (.mov (.c (.b false)))] [4]) (
 sq (.reg [
   mM 5 0,
   mM 6 1,
   O 7 (.call 2 333 [.t 5,.t 6]),
   O 8 (.bin .geq (.t 7) (.c (I 0))),
   mM 4 8] [8,7,1,6,0,5]) (
 .ret))⟩
def qlj:PF:=⟨2,[.t 3],
 sq (.reg [
   O 2 (.box (K1 6) (.t 0)),
   O 3 (.mov (.c (.b false)))] [3,0]) (
 sq (.reg [
   mF 4 5 2,
   mL 5 4,
   mF 6 5 1,
   mL 7 6,
   O 8 (.bin .eql (.t 5) (.t 7)),
   mM 3 8] [8,7,1,6,5,2,4]) (
 .ret))⟩
def qjH:PF:=⟨1,[.t 2],
 sq (.reg [
   O 2 (.mov (.c (.b false)))] [2]) (
 sq (.reg [
   mM 3 0,
   O 4 (.bin .geq (.t 3) (.c (I 0))),
   mM 5 4,
   OG 6 5 true (.mov (.t 0)),
   OG 7 5 true (.bin .leq (.t 6) (.c (I 73048))),
   O 8 (.pick (.t 5) (.t 7) (.c (.b false))),
   mM 2 8] [8,7,6,5,4,0,3]) (
 .ret))⟩
def qIl:PC :=
 sq (.reg [
   O 9 (.bin .lss (.t 8) (.t 7))] []) (
 sq (.cond (.t 9) (.skip)
   (.exit 0)) (
 sq (.block 1 (
   sq (.reg [
     mM 10 8,
     mM 5 10] [10]) (
   sq (.reg [
     mM 11 1,
     mM 12 0,
     mM 13 5,
     O 14 (.iaddr (K1 6) (.t 12) (.t 13)),
     O 15 (.load (K1 6) (.t 14)),
     O 16 (.callv (.t 11) [.t 15])] [15,14,13,12,11]) (
   .cond (.t 16) (sq (.reg [
      mM 17 5,
      mM 4 17] [5,17]) (
    .ret))
    (.skip))))) (
 .reg [
  O 18 (.bin .add (.t 8) (.c (I 1))),
  mM 8 18] [18])))
def qmp:PF:=⟨2,[.t 4],
 sq (.reg [
   mI 4 0] [4]) (
 sq (sq (.reg [
    mM 6 0,
    O 7 (.len false (.t 6)),
    mI 8 0] [6]) (
  .block 0 (
   .loop [0,1,7,8] qIl))) (
 sq (.reg [
   O 4 (.mov (.c (I (-1))))] []) (
 .ret)))⟩
def qhs:PF:=⟨2,[.t 4,.t 5],
 sq (.reg [
   O 3 (.box (K1 6) (.t 1)),
   O 4 (.mov (.c (.l (K1 6) [] true))),
   mI 5 0] [5,4,1]) (
 sq (.block 0 (
   sq (.reg [
     mM 7 0,
     O 8 (.call 0 169 [.t 7]),
     O 9 (.bin .neq (.t 8) (.c (I 0))),
     mM 10 9,
     OG 11 10 false (.load (K1 6) (.t 3)),
     OG 12 10 false (.bsl (K1 6) (.a [I 0,I 0,I 0,I 0,I 0,.s []]) 1 [(0,(.t 11))]),
     OG 13 10 false (.call 0 169 [.t 12]),
     OG 14 10 false (.bin .neq (.t 13) (.c (I 0))),
     O 15 (.pick (.t 10) (.c (.b true)) (.t 14)),
     mM 6 15] [15,14,13,12,11,10,9,8,7]) (
   .cond (.t 6) (sq (.reg [
      O 4 (.mov (.c (.l (K1 6) [] true))),
      mI 5 1] []) (
    .ret))
    (sq (.regD [
      mM 17 0,
      O 18 (.len false (.t 17)),
      O 19 (.bin .gtr (.t 18) (.c (I 0))),
      mM 20 19,
      OG 21 20 true (.faddr 0 (.t 3)),
      OG 22 20 true (.load K0 (.t 21)),
      OG 23 20 true (.mov (.t 0)),
      OG 24 20 true (.mov (.t 0)),
      OG 25 20 true (.len false (.t 24)),
      OG 26 20 true (.bin .sub (.t 25) (.c (I 1))),
      OG 27 20 true (.iaddr (K1 6) (.t 23) (.t 26)),
      OG 28 20 true (.faddr 0 (.t 27)),
      OG 29 20 true (.load K0 (.t 28)),
      OG 30 20 true (.bin .leq (.t 22) (.t 29)),
      O 31 (.pick (.t 20) (.t 30) (.c (.b false))),
      mM 16 31] [0,1,3,7,15,31,15,15,143,399,975,1999,4047,8191,16383,32767] [31,30,29,28,27,26,25,24,23,22,21,20,19,18,17]) (
    .cond (.t 16) (sq (.reg [
       O 4 (.mov (.c (.l (K1 6) [] true))),
       mI 5 10] []) (
     .ret))
     (sq (.reg [
       mM 33 0,
       O 34 (.mkf 721 [.t 3]),
       O 35 (.call 2 249 [.t 33,.t 34]),
       mM 32 35] [35,34,33]) (
     .cond (.t 32) (sq (.reg [
        O 4 (.mov (.c (.l (K1 6) [] true))),
        mI 5 12] []) (
      .ret))
      (sq (.reg [
        mM 37 0,
        O 38 (.len false (.t 37)),
        O 39 (.bin .eql (.t 38) (.c (I 64))),
        mM 36 39] [39,38,37]) (
      .cond (.t 36) (sq (.reg [
         O 4 (.mov (.c (.l (K1 6) [] true))),
         mI 5 5] []) (
       .ret))
       (.skip)))))))))) (
 sq (.regD [
   mM 40 0,
   O 41 (.call 1 228 [.t 40]),
   O 42 (.load (K1 6) (.t 3)),
   O 43 (.bsl (K1 6) (.a [I 0,I 0,I 0,I 0,I 0,.s []]) 1 [(0,(.t 42))]),
   O 44 (.app (K1 6) 56 (.t 41) (.t 43)),
   mM 4 44,
   mI 5 0] [0,1,0,4,15,31,63] [44,43,3,42,41,0,40]) (
 .ret)))⟩
def qkJ:PF:=⟨2,[.t 3],
 sq (.reg [
   O 2 (.box (K1 6) (.t 0)),
   O 3 (.mov (.c (.b false)))] [3,0]) (
 sq (.reg [
   mF 4 5 2,
   mL 5 4,
   mF 6 5 1,
   mL 7 6,
   O 8 (.bin .eql (.t 5) (.t 7)),
   mM 3 8] [8,7,1,6,5,2,4]) (
 .ret))⟩
def qfK:PF:=⟨3,[.t 6],
 sq (.reg [
   O 3 (.box (K1 22) (.t 0)),
   O 4 (.box (K1 6) (.t 1)),
   O 5 (.box (K1 3) (.t 2)),
   O 6 (.mov (.c (.b false)))] [6,2,1,0]) (
 sq (sq (.reg [
    O 14 (.load (K1 22) (.t 3)),
    O 15 (.call 0 1093 [.t 14]),
    O 16 (.un .not (.t 15))] [15,14]) (
  .cond (.t 16) (sq (.reg [
     O 17 (.call 0 1091 []),
     mM 6 17] [17]) (
   .ret))
   (.skip))) (
 sq (.reg [
   mF 19 20 3,
   mL 20 19,
   O 21 (.load (K1 6) (.t 4)),
   O 22 (.call 0 635 [.t 20,.t 21]),
   mM 18 22,
   mX 23 18 0,
   mX 24 18 1,
   mM 7 23,
   mM 8 24] [24,23,18,22,21,20,19]) (
 sq (sq (.reg [
    mM 25 8,
    O 26 (.bin .neq (.t 25) (.c (I 0)))] [8,25]) (
  .cond (.t 26) (sq (.reg [
     O 27 (.call 0 1091 []),
     mM 6 27] [27]) (
   .ret))
   (.skip))) (
 sq (.reg [
   O 29 (.load (K1 22) (.t 3)),
   mF 30 0 5,
   mL 31 30,
   mF 32 1 5,
   mL 33 32,
   O 34 (.call 0 634 [.t 29,.t 31,.t 33]),
   mM 28 34,
   mX 35 28 0,
   mX 36 28 1,
   mM 9 35,
   mM 10 36] [36,35,28,34,33,32,31,30,29]) (
 sq (.reg [
   mM 37 7,
   mF 38 20 3,
   E (.store K0 (.t 38) (.t 37))] [38,7,37]) (
 sq (.reg [
   O 40 (.load (K1 22) (.t 3)),
   mF 41 0 5,
   mL 42 41,
   mF 43 1 5,
   mL 44 43,
   O 45 (.call 0 634 [.t 40,.t 42,.t 44]),
   mM 39 45,
   mX 46 39 0,
   mX 47 39 1,
   mM 11 46,
   mM 12 47] [47,46,39,45,44,43,42,41,3,40]) (
 sq (.reg [
   mM 48 9,
   mM 13 48] [9,48]) (
 sq (sq (.reg [
    mM 49 10,
    O 50 (.bin .eql (.t 49) (.c (I 0))),
    mM 51 50,
    OG 52 51 true (.faddr 1 (.t 4)),
    OG 53 51 true (.load K0 (.t 52)),
    OG 54 51 true (.faddr 0 (.t 5)),
    OG 55 51 true (.load K0 (.t 54)),
    OG 56 51 true (.bin .eql (.t 53) (.t 55)),
    O 57 (.pick (.t 51) (.t 56) (.c (.b false))),
    mM 58 57,
    OG 59 58 true (.faddr 1 (.t 5)),
    OG 60 58 true (.load K0 (.t 59)),
    OG 61 58 true (.faddr 3 (.t 4)),
    OG 62 58 true (.load K0 (.t 61)),
    OG 63 58 true (.bin .geq (.t 60) (.t 62)),
    O 64 (.pick (.t 58) (.t 63) (.c (.b false))),
    mM 65 64,
    OG 66 65 true (.faddr 1 (.t 5)),
    OG 67 65 true (.load K0 (.t 66)),
    OG 68 65 true (.faddr 4 (.t 4)),
    OG 69 65 true (.load K0 (.t 68)),
    OG 70 65 true (.bin .leq (.t 67) (.t 69)),
    O 71 (.pick (.t 65) (.t 70) (.c (.b false)))] [70,69,68,67,66,65,64,63,62,61,60,59,58,57,56,55,5,54,53,52,51,50,49]) (
  .cond (.t 71) (.reg [
    mM 72 13,
    mF 73 2 4,
    mL 74 73,
    O 75 (.bin .sub (.t 72) (.t 74)),
    mM 13 75] [75,74,4,73,72])
   (.skip))) (
 sq (.reg [
   mM 76 10,
   mM 77 12,
   O 78 (.bin .eql (.t 76) (.t 77)),
   mM 79 78,
   OG 80 79 true (.mov (.t 11)),
   OG 81 79 true (.mov (.t 13)),
   OG 82 79 true (.bin .eql (.t 80) (.t 81)),
   O 83 (.pick (.t 79) (.t 82) (.c (.b false))),
   mM 84 83,
   OG 85 84 true (.call 0 1091 []),
   O 86 (.pick (.t 84) (.t 85) (.c (.b false))),
   mM 6 86] [86,85,84,83,82,13,81,11,80,79,78,12,77,10,76]) (
 .ret))))))))))⟩
end Go.Sim
end
section
open Go.RowKit Go.WideShapes Go.Deep
namespace Go.Sim
inductive Ty where
 |b
 |i (k:IntKind)
 |s
 |e
 |l (k:K) (b:Nat) (ts:List Ty)
def qa8:Nat:=140737488355328
mutual
inductive XL:DV→Prop
 |mk (es:List DV):es.length≤maxLen→(∀e∈es,XE e)→es.length*56≤qa8→XL (.l (some 4) es false)
inductive XE:DV→Prop
 |mk (o n:Int) (s:List UInt8) (a:DV):(Lit.int .i64 o).wf=true→(Lit.int .i64 n).wf=true→s.length≤maxLen→XL a→XE (.a [.i .i64 o,.i .i64 n,.s s,a])
end
mutual
def Has:Ty→DV→Prop
 | .e,x=>XL x
 | .b,x=>∃c,x = .b c
 | .i k,x=>∃n,x = .i k n∧(Lit.int k n).wf=true
 | .s,x=>∃l,x = .s l∧l.length≤maxLen
 | .l k b ts,x=>∃es,x = .l k es false∧es.length≤maxLen∧es.length*b≤qa8∧∀e∈es,∃cs,mkD k cs=some e∧qam ts cs
def qam:List Ty→List DV→Prop
 | [],[]=>True
 |t::ts,x::xs=>Has t x∧qam ts xs
 | _,_=>False
end
def qhU (P:Program) (rec:TypeId→Option (List Ty)):List Field→Nat→Nat→Option (List Ty)
 | [],off,n=>if off=n then some [] else none
 |f::fs,off,n=>if f.offset≠off then none else (rec f.type).bind fun a=>if a.length≠P.cellsOf f.type then none else (qhU P rec fs (off+a.length) n).bind fun b=>some (a++b)
def tyB (P:Program) (u:TypeId):Option (List Ty):=match P.underlying u with
 |some .bool=>some [.b]
 |some (.int k)=>some [.i k]
 |some .string=>some [.s]
 | _=>none
def qxW:Option (List Ty)→Bool
 |some [.i .i64,.i .i64,.s,.e]=>true
 | _=>false
def qsi (P:Program) (t:TypeId):Bool:=match P.underlying t with
 |some (.slice e)=>decide (kq P e=some (some 4))&&(decide (P.cellsOf e=4∧P.bytesOf e=56)&&match P.underlying e with
  |some (.struct fs)=>qxW (qhU P (fun u=>if u=t then some [.e] else tyB P u) fs.toList 0 4)
  | _=>false)
 | _=>false
def qf3 (P:Program):Nat→TypeId→Option (List Ty)
 | 0,_=>none
 |n+1,t=>match P.underlying t with
  |some .bool=>some [.b]
  |some (.int k)=>some [.i k]
  |some .string=>some [.s]
  |some (.slice e)=>if qsi P t=true then some [.e] else (kq P e).bind fun k=>(qf3 P n e).bind fun ts=>if ts.length=P.cellsOf e∧k.size=ts.length∧0<ts.length then some [.l k (P.bytesOf e) ts] else none
  |some (.struct fs)=>qhU P (qf3 P n) fs.toList 0 (P.cellsOf t)
  |some (.array m e)=>(qf3 P n e).bind fun ts=>if ts.length=P.cellsOf e∧P.cellsOf t=m*P.cellsOf e then some (List.replicate m ts).flatten else none
  | _=>none
def Live (w:World):qac:=fun b o=>∃v,w.cell? ⟨b,o,none⟩=some v
theorem Live.swf (w:World):Swf w (Live w):=fun _ _ h=>h
def R1 (w:World) (t:Ty) (v:Value):Prop:=flat v∧∃x,Has t x∧RelD w (Live w) x v
def CR (w:World):List Ty→List Value→Prop
 | [],[]=>True
 |t::ts,v::vs=>R1 w t v∧CR w ts vs
 | _,_=>False
theorem CR.append {w:World} : ∀{ts:List Ty} {vs:List Value} {us:List Ty} {ws:List Value},CR w ts vs→CR w us ws→CR w (ts++us) (vs++ws)
 | [],[],_,_,_,k=>k
 | _::_,_::_,_,_,h,k=>⟨h.1,h.2.append k⟩
 | [],_::_,_,_,h,_=>h.elim
 | _::_,[],_,_,h,_=>h.elim
theorem CR.len {w:World} : ∀{ts:List Ty} {vs:List Value},CR w ts vs→ts.length=vs.length
 | [],[],_=>rfl
 | _::_,_::_,h=>by simp[h.2.len]
 | [],_::_,h=>h.elim
 | _::_,[],h=>h.elim
theorem CR.flat {w:World} : ∀{ts:List Ty} {vs:List Value},CR w ts vs→∀v∈vs,flat v
 | [],[],_,v,hv=>by cases hv
 | _::_,_::_,h,v,hv=>by
  rcases List.mem_cons.1 hv with rfl|hv
  ·exact h.1.1
  ·exact h.2.flat v hv
 | [],_::_,h,_,_=>h.elim
 | _::_,[],h,_,_=>h.elim
theorem CR.data {w:World} : ∀{ts:List Ty} {vs:List Value},CR w ts vs→∃xs,qam ts xs∧xs.length=vs.length∧∀j (h:j<xs.length) (h':j<vs.length),RelD w (Live w) xs[j] vs[j]
 | [],[],_=>⟨[],by simp[qam],rfl,fun j h=>by cases h⟩
 | _::_,_::_,h=>by
  obtain⟨xs,h1,h2,h3⟩:=h.2.data;obtain⟨-,x,h4,h5⟩:=h.1;refine⟨x::xs,by rw[qam];exact⟨h4,h1⟩,by simp[h2],?_⟩
  intro j hj hj';cases j with
  |zero=>exact h5
  |succ j=>exact h3 j _ _
 | [],_::_,h=>h.elim
 | _::_,[],h=>h.elim
theorem CR.val {w:World} {ts:List Ty} {vs:List Value} (h:CR w ts vs) {k:K} (hk:k.size=ts.length) (c:Nat→Value) (hc : ∀m (h:m<vs.length),c m=vs[m]) :
  ∃xs e,mkD k xs=some e∧qam ts xs∧RelD w (Live w) e (mkV k c):=by
 obtain⟨xs,h1,h2,h3⟩:=h.data;have hl:=h.len
 cases k with
 |none =>
  simp only[K.size] at hk;match xs,vs,h2 with
  | [x],[v],_ =>
   refine⟨[x],x,rfl,h1,?_⟩
   have:=h3 0 (by simp) (by simp)
   simp only[mkV];rw[hc 0 (by simp)]
   exact this
  | [],[],_=>simp at hl;subst hl;simp at hk
  | _::_::_,vs,e=>rw[←hl,←hk] at e;simp at e
 |some n =>
  simp only[K.size] at hk;have e:(List.range n).map c=vs:=by
   apply List.ext_getElem
   ·simp;omega
   ·intro m hm hm';simp[hc m hm']
  refine⟨xs,.a xs,by simp[mkD];omega,h1,?_⟩
  simp only[mkV,e];exact .a xs vs h2 h.flat h3
section
variable {H : Type} {enc : TypeId × Value → H} {P : Program} {w : World} {sp : Nat → Bool} {held : Bool}
def Wts (P:Program) (t:TypeId) (d:DataW H):Prop:=∀n∈d.weights P t,n≤reachBytes
theorem qn8 {e:TypeId} : ∀{l:List (DataW H)},(∀n∈DataW.weightsAll P e l,n≤reachBytes)→∀d∈l,Wts P e d
 | [],_,d,hd=>by cases hd
 |x::r,h,d,hd=>by
  simp only[DataW.weightsAll,List.mem_append] at h;rcases List.mem_cons.1 hd with rfl|hd
  ·exact fun n hn=>h n (.inl hn)
  ·exact qn8 (fun n hn=>h n (.inr hn)) d hd
theorem qqL : ∀{ts:List TypeId} {l:List (DataW H)},(∀n∈DataW.weightsEach P ts l,n≤reachBytes)→∀i (h:i<ts.length) (h':i<l.length),Wts P ts[i] l[i]
 | [],_,_,i,h,_=>by cases h
 | _::_,[],_,i,_,h'=>by cases h'
 |t::ts,d::r,h,i,hi,hi'=>by
  simp only[DataW.weightsEach,List.mem_append] at h;cases i with
  |zero=>exact fun n hn=>h n (.inl hn)
  |succ i=>exact qqL (fun n hn=>h n (.inr hn)) i (by simpa using hi) (by simpa using hi')
theorem qGt {t e:TypeId} {el sl:List (DataW H)} (hu:P.underlying t=some (.slice e)) (h:Wts P t (.slice el sl)):el.length*P.bytesOf e≤reachBytes∧∀d∈el,Wts P e d:=by
 unfold Wts at h;simp only[DataW.weights,hu,List.mem_cons,List.mem_append] at h;refine⟨Nat.le_trans (zzh _ (Nat.le_add_right _ _)) (h _ (.inl rfl)),fun d hd=>qn8 (fun n hn=>h n (.inr (.inl hn))) d hd⟩
theorem qt4 {t:TypeId} {fs:Array Field} {l:List (DataW H)} (hu:P.underlying t=some (.struct fs)) (h:Wts P t (.agg l)) (i:Nat) (hi:i<fs.size) (hi':i<l.length):Wts P fs[i].type l[i]:=by
 unfold Wts at h;simp only[DataW.weights,hu] at h
 have:=qqL h i (by simpa using hi) hi'
 simpa using this
theorem qCk {t e:TypeId} {m:Nat} {l:List (DataW H)} (hu:P.underlying t=some (.array m e)) (h:Wts P t (.agg l)) : ∀d∈l,Wts P e d:=by
 unfold Wts at h;simp only[DataW.weights,hu] at h;exact qn8 h
theorem qqg {rec:TypeId→Option (List Ty)} {cs:List Value} {n:Nat} (hn:cs.length=n) : ∀(fs:List Field) (off:Nat) (ts:List Ty),off≤n→qhU P rec fs off n=some ts →
  (∀f∈fs,∀ts',rec f.type=some ts'→CR w ts' ((cs.drop f.offset).take (P.cellsOf f.type)))→CR w ts (cs.drop off)
 | [],off,ts,ho,h,_=>by
  simp only[qhU] at h;split at h
  ·cases h;rw[List.drop_eq_nil_iff.2 (by omega)]
   trivial
  ·cases h
 |f::fs,off,ts,ho,h,hf=>by
  simp only[qhU] at h;split at h
  ·cases h
  rename_i h1;have h1:f.offset=off:=by simpa using h1
  obtain⟨a,ha,h⟩:=zza.1 h;split at h
  ·cases h
  rename_i h2;have h2:a.length=P.cellsOf f.type:=by simpa using h2
  obtain⟨b,hb,h⟩:=zza.1 h;cases h;have k1:=hf f (zzr ..) a ha
  have k1l:=k1.len
  rw[h1,←h2] at k1;have hle:off+a.length≤n:=by
   rw[List.length_take,List.length_drop,h1] at k1l;omega
  have k2:=qqg hn fs (off+a.length) b hle hb (fun g hg=>hf g (zzi _ hg))
  have:=k1.append k2
  rwa [←List.drop_drop,List.take_append_drop] at this
theorem qxj {cs:List Value} {c:Nat} {ts:List Ty} (ht:ts.length=c) : ∀(m i:Nat),cs.length=(i+m)*c→(∀j,i≤j→j<i+m→CR w ts ((cs.drop (j*c)).take c))→CR w (List.replicate m ts).flatten (cs.drop (i*c))
 | 0,i,hl,_=>by
  rw[List.drop_eq_nil_iff.2 (by rw[hl];simp)]
  trivial
 |m+1,i,hl,h=>by
  have k1:=h i (zzt _) (by omega)
  have k2:=qxj ht m (i+1) (by rw[hl];congr 1;omega) (fun j hj hj'=>h j (by omega) (by omega))
  have:=k1.append k2
  rw[Nat.succ_mul,←List.drop_drop,List.take_append_drop] at this;simpa[List.replicate_succ] using this
theorem qu6 {t e:TypeId} {fuel:Nat} {cs:List Value} {x:DataW H×List MemPlace} {k:K} {c:Nat} {Pe:DV→Prop} (hu:P.underlying t=some (.slice e)) (hd:DataW.trod enc P w 0 sp held fuel t cs=some x) (hc1:c=P.cellsOf e) (hc2:k.size=c) (hc3:0<c) (hw:Wts P t x.1)
  (hel : ∀n cs' x',n<fuel→DataW.trod enc P w 0 sp held n e cs'=some x'→Wts P e x'.1→∃us,us.length=c∧CR w us cs'∧∀xs ee,mkD k xs=some ee→qam us xs→Pe ee) :
  ∃v E,cs=[v]∧flat v∧RelD w (Live w) (.l k E false) v∧E.length≤maxLen∧E.length*P.bytesOf e≤qa8∧∀e∈E,Pe e:=by
 rcases DataW.trod_slice hu hd with ⟨rfl,-⟩|⟨a,len,cap,elems,rest,n,rfl,rfl,hxe,hb,hl,hm,hlen,hx,-,-⟩
 ·refine⟨_,[],rfl,rfl,?_,by simp,by simp,fun e he=>by cases he⟩
  exact .l k [] false none 0 0 0 (fun _ _=>.bool false) (zzt _) (fun h=>by cases h) (fun h=>by cases h) (fun j h=>by cases h) (fun j h=>by cases h)
 ·rw[hxe] at hw;obtain⟨hw1,hw2⟩:=qGt hu hw;have hs : ∀i,i<len→∃V:(Nat→Value)×DV,(∀q,q<k.size→w.cell? (a.add (i*P.cellsOf e+q))=some (V.1 q)∧flat (V.1 q))∧Pe V.2∧RelD w (Live w) V.2 (mkV k V.1):=by
   intro i hi;have h0:=hx i hi
   rw[zze (by omega)] at h0
   obtain⟨cs',h1,h2⟩:=zza.1 h0;obtain⟨us,hus,h3,hpe⟩:=hel n cs' _ (Nat.lt_succ_self n) h2 (hw2 _ (List.mem_map.2 ⟨_,zzs _,rfl⟩));obtain⟨-,h4,h5⟩:=World.cells?_some h1;obtain⟨xs,ee,e1,e2,e3⟩:=h3.val (k:=k) (by omega) (fun q=>cs'.getD q (.bool false)) (fun q hq=>by simp[hq])
   have hul:=h3.len
   refine⟨(fun q=>cs'.getD q (.bool false),ee),?_,hpe xs ee e1 e2,e3⟩
   intro q hq;have hq':q<cs'.length:=by omega
   have h6:=h5 q (by omega)
   rw[zze hq'] at h6;have e7:(cs'.getD q (.bool false))=cs'[q]:=by simp[hq']
   refine⟨?_,?_⟩
   ·rw[show (a.add (i*P.cellsOf e+q))=(a.add (i*P.cellsOf e)).add q by by_cases g1:i*P.cellsOf e=0<;>by_cases g2:q=0<;>simp[Addr.add,g1,g2,Nat.add_assoc]]
    simp only[e7];exact h6
   ·show flat (cs'.getD q (.bool false))
    rw[e7];exact h3.flat _ (zzs _)
  have:Inhabited ((Nat→Value)×DV):=⟨(fun _=>.bool false,.np)⟩
  obtain⟨V,hV⟩:=choose_lt hs;obtain⟨E,hE,hEV⟩ : ∃E:List DV,E.length=len∧∀i (h:i<E.length),E[i]=(V i).2:=⟨(List.range len).map fun i=>(V i).2,by simp,fun i h=>by simp⟩
  subst hE;have hk0:0<k.size:=by omega
  have sp0 : ∀j,j<E.length→a.spot=none:=by
   intro j hj
   have:=World.cell?_spot ((hV 0 (by omega)).1 0 hk0).1
   simpa[Addr.add] using this
  refine⟨_,E,rfl,rfl,?_,by omega,by simp only[zzo,hlen] at hw1;unfold qa8;unfold reachBytes at hw1;omega,?_⟩
  ·refine RelD.l (w:=w) (S:=Live w) k E false (some a) cap a.block a.off (fun j=>(V j).1) hl (fun h=>by cases h) ?_ ?_ ?_
   ·intro h0
    have:=sp0 0 h0
    cases a;simp_all
   ·intro j hj q hq;obtain⟨g1,g2⟩:=(hV j hj).1 q hq;have hs0:=sp0 j hj
    have e8:a.add (j*P.cellsOf e+q)=⟨a.block,a.off+j*k.size+q,none⟩:=by
     rw[←hc1,←hc2];obtain⟨ab,ao,as0⟩:=a;simp only at hs0;subst hs0;by_cases g:j*k.size+q=0<;>simp[Addr.add,g,Nat.add_assoc]
     omega
    rw[e8] at g1;exact⟨g1,⟨_,g1⟩,g2⟩
   ·intro j hj;rw[hEV j hj];exact (hV j hj).2.2
  ·intro ee he;obtain⟨i,hi,rfl⟩:=List.getElem_of_mem he;rw[hEV i hi];exact (hV i hi).2.1
theorem qKd {u:TypeId} {fuel:Nat} {cs:List Value} {x:DataW H×List MemPlace} {ts:List Ty} (hd:DataW.trod enc P w 0 sp held fuel u cs=some x) (h:tyB P u=some ts):CR w ts cs:=by
 unfold tyB at h;split at h
 ·rename_i hu;cases h;obtain⟨b,rfl,-⟩:=DataW.trod_bool hu hd;exact⟨⟨rfl,.b b,by simp[Has],.b b⟩,trivial⟩
 ·rename_i k hu;cases h;obtain⟨m,rfl,-,hw⟩:=DataW.trod_int hu hd;exact⟨⟨rfl,.i k m,by simp[Has,hw],.i k m⟩,trivial⟩
 ·rename_i hu;cases h;obtain⟨s,rfl,-,hs⟩:=DataW.trod_string hu hd;exact⟨⟨rfl,.s s.data.toList,by simpa[Has] using hs,.s _ s rfl⟩,trivial⟩
 ·cases h
theorem qBU {xs:List DV} {ee:DV} (h1:mkD (some 4) xs=some ee) (h2:qam [.i .i64,.i .i64,.s,.e] xs):XE ee:=by
 match xs,h2 with
 | [x1,x2,x3,x4],h2 =>
  simp only[qam,Has,and_true] at h2;obtain⟨⟨o,rfl,ho⟩,⟨n,rfl,hn⟩,⟨s,rfl,hs⟩,h4⟩:=h2;simp only[mkD,zzn,List.length_nil,if_true,zzb] at h1;subst h1;exact .mk o n s x4 ho hn hs h4
 | [],h2=>simp[qam] at h2
 | [_],h2=>simp[qam] at h2
 | [_,_],h2=>simp[qam] at h2
 | [_,_,_],h2=>simp[qam] at h2
 | _::_::_::_::_::_,h2=>simp[qam] at h2
theorem qzO {t:TypeId} (ht:qsi P t=true) : ∀(m fuel:Nat) (cs:List Value) (x:DataW H×List MemPlace),fuel≤m→DataW.trod enc P w 0 sp held fuel t cs=some x→Wts P t x.1→CR w [.e] cs:=by
 have ht0:=ht
 unfold qsi at ht;split at ht;case h_2=>cases ht
 rename_i e hu;simp only[zzf,zzq] at ht;obtain⟨hk,⟨hc,hb⟩,ht⟩:=ht;split at ht;case h_2=>cases ht
 rename_i fs hf;obtain⟨ts,hts,h4⟩ : ∃ts,qhU P (fun u=>if u=t then some [.e] else tyB P u) fs.toList 0 4=some ts∧ts=[.i .i64,.i .i64,.s,.e]:=by
  unfold qxW at ht;split at ht
  ·rename_i hq;exact⟨_,hq,rfl⟩
  ·cases ht
 subst h4;intro m;induction m with
 |zero =>
  intro fuel cs x hm hd _;obtain rfl:fuel=0:=by omega
  simp[DataW.trod] at hd
 |succ m ih =>
  intro fuel cs x hm hd hw;obtain⟨v,E,rfl,hfl,hr,hlen,hlb,hE⟩:=qu6 (k:=some 4) (c:=4) (Pe:=XE) hu hd hc.symm rfl (by decide) hw (fun n cs' x' hn hd' hw'=>by
   refine⟨_,rfl,?_,fun xs ee h1 h2=>qBU h1 h2⟩
   obtain⟨xs,n',rfl,hxe,hl,hl2,hx⟩:=DataW.trod_struct hf hd';rw[hxe] at hw'
   have:=qqg (P:=P) (w:=w) (rec:=fun u=>if u=t then some [.e] else tyB P u) (hl.trans hc) fs.toList 0 _ (Nat.zero_le _) hts (fun f hf' ts' hts'=>by
    obtain⟨i,hi,rfl⟩:=List.getElem_of_mem hf';have hi':i<fs.size:=by simpa using hi
    have h5:=hx i fs[i] (by simp[hi'])
    rw[zze (by omega)] at h5
    simp only[Array.getElem_toList] at hts'⊢;split at hts'
    ·rename_i hft;cases hts';rw[hft] at h5⊢;exact ih n' _ _ (by omega) h5 (by have:=qt4 hf hw' i hi' (by simp;omega);rw[hft] at this;simpa using this)
    ·exact qKd h5 hts')
   simpa using this)
  exact⟨⟨hfl,_,by rw[Has];exact .mk E hlen hE (by rw[←hb];exact hlb),hr⟩,trivial⟩
theorem qKn (n:Nat) : ∀{fuel:Nat} {t:TypeId} {cs:List Value} {x:DataW H×List MemPlace} {ts:List Ty},DataW.trod enc P w 0 sp held fuel t cs=some x→Wts P t x.1→qf3 P n t=some ts→CR w ts cs:=by
 induction n with
 |zero=>intro fuel t cs x ts _ _ h;cases h
 |succ n ih =>
  intro fuel t cs x ts hd hw h;simp only[qf3] at h;split at h
  ·rename_i hu;cases h;obtain⟨b,rfl,-⟩:=DataW.trod_bool hu hd;exact⟨⟨rfl,.b b,by simp[Has],.b b⟩,trivial⟩
  ·rename_i k hu;cases h;obtain⟨m,rfl,-,hw⟩:=DataW.trod_int hu hd;exact⟨⟨rfl,.i k m,by simp[Has,hw],.i k m⟩,trivial⟩
  ·rename_i hu;cases h;obtain⟨s,rfl,-,hs⟩:=DataW.trod_string hu hd;exact⟨⟨rfl,.s s.data.toList,by simpa[Has] using hs,.s _ s rfl⟩,trivial⟩
  ·rename_i e hu;split at h
   ·rename_i hX;cases h;exact qzO hX fuel fuel cs x (zzt _) hd hw
   obtain⟨k,hk,h⟩:=zza.1 h;obtain⟨us,hus,h⟩:=zza.1 h;split at h
   ·rename_i hc;cases h;obtain⟨hc1,hc2,hc3⟩:=hc;obtain⟨v,E,rfl,hfl,hr,hlen,hlb,hE⟩:=qu6 (k:=k) (c:=us.length) (Pe:=fun ee=>∃cs,mkD k cs=some ee∧qam us cs) hu hd hc1 hc2 hc3 hw (fun n' cs' x' _ hd' hw'=>⟨us,rfl,ih hd' hw' hus,fun xs ee h1 h2=>⟨xs,h1,h2⟩⟩)
    refine⟨⟨hfl,_,?_,hr⟩,trivial⟩;rw[Has];exact⟨E,rfl,hlen,hlb,hE⟩
   ·cases h
  ·rename_i fs hu;obtain⟨xs,m,-,hxe,hl,hl2,hx⟩:=DataW.trod_struct hu hd;rw[hxe] at hw
   have:=qqg (P:=P) (w:=w) (rec:=qf3 P n) hl fs.toList 0 ts (Nat.zero_le _) h (fun f hf ts' hts=>by
    obtain⟨i,hi,rfl⟩:=List.getElem_of_mem hf;have hi':i<fs.size:=by simpa using hi
    have:=hx i fs[i] (by simp[hi'])
    rw[zze (by omega)] at this
    simpa using ih this (by have:=qt4 hu hw i hi' (by simp;omega);simpa using this) hts)
   simpa using this
  ·rename_i m e hu;obtain⟨us,hus,h⟩:=zza.1 h;split at h
   ·rename_i hc;cases h;obtain⟨xs,m',-,hxe,hl,hl2,hx⟩:=DataW.trod_array hu hd;rw[hxe] at hw
    have:=qxj (w:=w) (cs:=cs) hc.1 m 0 (by rw[hl,hc.2];simp) (fun j _ hj=>by
     have:=hx j (by omega)
     rw[zze (by omega)] at this
     exact ih this (qCk hu hw _ (List.mem_map.2 ⟨_,zzs _,rfl⟩)) hus)
    simpa using this
   ·cases h
  ·cases h
end
end Go.Sim
end
section
open Go.RowKit
namespace Go.Sim
section
variable {P : Program} {W : World}
theorem quM {n:String} {d:DataW Unit} : ∀{l:List (String×DataW Unit)} {ps:List MemPlace},DataW.LaidVars P W l ps→(n,d)∈l →
  ∃g t cs fuel p,P.globalNamed n=some g∧(P.globals[g]?).map (·.type)=some t∧W.var? P n=some cs∧DataW.trod (fun _=>()) P W 0 (fun _=>true) false fuel t cs.toList=some (d,p)∧∀x∈MemPlace.row ⟨g,0,none⟩ cs.size,x∈ps
 | [],_,_,h=>by cases h
 | (m,e)::r,ps,h,hm=>by
  obtain⟨g,t,cs,fuel,p,q,h1,h2,h3,h4,h5,rfl⟩:=h;rcases List.mem_cons.1 hm with h|h
  ·cases h;exact⟨g,t,cs,fuel,p,h1,h2,h3,h4,fun x hx=>List.mem_append_left _ (List.mem_append_left _ hx)⟩
  ·obtain⟨g',t',cs',fuel',p',a1,a2,a3,a4,a5⟩:=quM h5 h;exact⟨g',t',cs',fuel',p',a1,a2,a3,a4,fun x hx=>List.mem_append_right _ (a5 x hx)⟩
theorem qEF {laid:List (String×DataW Unit)} (h:laidMet P laid W) {n:String} {d:DataW Unit} (hm:(n,d)∈laid) {g:Nat} (hg:P.globalNamed n=some g) {t:TypeId} (ht:(P.globals[g]?).map (·.type)=some t) :
  ∃(cs:Array Value) (fuel:Nat) (p:List MemPlace),DataW.trod (fun _=>()) P W 0 (fun _=>true) false fuel t cs.toList=some (d,p)∧(0<cs.size→∃e,W.shape? g=some (e,cs.size))∧∀j (hj:j<cs.size),W.cell? ⟨g,j,none⟩=some cs[j]:=by
 obtain⟨ps,h1,-,h3⟩:=h;obtain⟨g',t',cs,fuel,p,a1,a2,a3,a4,a5⟩:=quM h1 hm;obtain rfl:=Option.some.inj (hg.symm.trans a1);obtain rfl:=Option.some.inj (ht.symm.trans a2);have hheap : ∃e fz,W.heap[g]? = some (.cells cs e fz):=by
  unfold World.var? at a3;rw[hg] at a3;simp only[Option.bind_some] at a3;split at a3
  ·rename_i cs' e fz hw;cases a3;exact⟨e,fz,hw⟩
  ·cases a3
 obtain⟨e,fz,hw⟩:=hheap;refine⟨cs,fuel,p,a4,?_,?_⟩
 ·intro hp;obtain⟨⟨c,u,hc⟩,-⟩:=h3 g 0 (a5 _ (by unfold MemPlace.row;exact List.mem_map.2 ⟨0,List.mem_range.2 hp,rfl⟩))
  rw[hw] at hc;cases hc;exact⟨e,by simp[World.shape?,hw]⟩
 ·intro j hj;simp[World.cell?,hw,hj]
theorem qIO {S:qac} (hS:S=Live W) {g:Nat} {zs:List (IntKind×Int)} (hz:0<zs.length) {cs:Array Value} (hl:cs.toList=zs.map fun z=>Value.int z.1 z.2) (hs:0<cs.size→∃e,W.shape? g=some (e,cs.size)) (hc : ∀j (hj:j<cs.size),W.cell? ⟨g,j,none⟩=some cs[j]) :
  (∃e,W.shape? g=some (e,zs.length))∧∃f,At W S g 0 zs.length f∧RelD W S (.a (zs.map fun z=>.i z.1 z.2)) (mkV (some zs.length) f):=by
 subst hS;have hn:cs.size=zs.length:=by rw[←Array.length_toList,hl,zzo]
 have hget : ∀j (hj:j<zs.length),cs[j]'(by omega) = .int zs[j].1 zs[j].2:=fun j hj=>by
  have h1:cs.toList[j]'(by rw[Array.length_toList];omega)=cs[j]'(by omega):=Array.getElem_toList _
  rw[←h1];simp only[hl,List.getElem_map]
 refine⟨?_,fun j=>cs.getD j (.bool false),?_,?_⟩
 ·obtain⟨e,he⟩:=hs (by omega)
  exact⟨e,by rw[he,hn]⟩
 ·intro j hj;have h1:=hc j (by omega)
  have h2:cs.getD j (.bool false)=cs[j]'(by omega):=by simp[Array.getD,show j<cs.size by omega]
  refine⟨by rw[Nat.zero_add];show _=some (cs.getD j (.bool false));rw[h2];exact h1,⟨_,by rw[Nat.zero_add];exact h1⟩,?_⟩
  show flat (cs.getD j (.bool false))
  rw[h2,hget j hj];rfl
 ·simp only[mkV];refine RelD.a _ _ (by simp) ?_ ?_
  ·intro v hv;obtain⟨j,hj,rfl⟩:=List.mem_map.1 hv;have hj:=List.mem_range.1 hj
   have h2:cs.getD j (.bool false)=cs[j]'(by omega):=by simp[Array.getD,show j<cs.size by omega]
   show flat (cs.getD j (.bool false))
   rw[h2,hget j hj];rfl
  ·intro j hj hj';simp only[zzo] at hj;simp only[List.getElem_map,List.getElem_range];have h2:cs.getD j (.bool false)=cs[j]'(by omega):=by simp[Array.getD,show j<cs.size by omega]
   rw[h2,hget j hj];exact .i _ _
theorem qy0 {laid:List (String×DataW Unit)} (h:laidMet P laid W) {n:String} {k:IntKind} {zs:List Int} (hm:(n,.agg (zs.map fun z=>.lit (.int k z)))∈laid) {g:Nat} (hg:P.globalNamed n=some g) {t:TypeId} (ht:(P.globals[g]?).map (·.type)=some t)
  {m:Nat} {e:TypeId} (hu:P.underlying t=some (.array m e)) (he:P.underlying e=some (.int k)) (hc:P.cellsOf e=1) (hct:P.cellsOf t=m) (hz:0<zs.length) :
  (∃e,W.shape? g=some (e,zs.length))∧∃f,At W (Live W) g 0 zs.length f∧RelD W (Live W) (.a (zs.map fun z=>.i k z)) (mkV (some zs.length) f):=by
 obtain⟨cs,fuel,p,h1,h2,h3⟩:=qEF h hm hg ht;obtain⟨xs,m',rfl,hx,hl,hxl,hel⟩:=DataW.trod_array hu h1;simp only[zzc,DataW.agg.injEq] at hx;have hzl:zs.length=m:=by
  have:=congrArg List.length hx.1
  simp only[zzo] at this;omega
 have hcs:cs.toList=(zs.map fun z=>(k,z)).map fun z=>Value.int z.1 z.2:=by
  apply List.ext_getElem
  ·simp only[zzo];rw[hl,hct,hzl]
  ·intro j hj hj';simp only[zzo] at hj';have hjm:j<m:=by omega
   have h4:=hel j hjm
   rw[hc,Nat.mul_one,zze (by omega)] at h4
   obtain⟨n',e1,e2,-⟩:=DataW.trod_int he h4;have e3:cs.toList[j] = .int k n':=by
    have:(cs.toList.drop j).take 1=[cs.toList[j]]:=by
     rw[List.drop_eq_getElem_cons hj];rfl
    rw[this] at e1;exact (List.cons.inj e1).1
   rw[e3];have e4:(xs.map (·.1))[j]'(by simp;omega) = .lit (.int k n'):=by simp only[List.getElem_map];rw[e2]
   have e5:(zs.map fun z=>(DataW.lit (.int k z):DataW Unit))[j]'(by simp;omega) = .lit (.int k n'):=by
    rw[←e4];congr 1;exact hx.1
   simp only[List.getElem_map] at e5;have e6:zs[j]=n':=by simpa using e5
   simp only[List.getElem_map];rw[e6]
 have:=qIO (W:=W) rfl (g:=g) (zs:=zs.map fun z=>(k,z)) (by simpa using hz) hcs h2 h3
 simpa only[zzo,List.map_map,Function.comp_def] using this
noncomputable def ql1 (gl:List (Nat×Nat)) (g:Nat):Nat:=qbv (fun x=>x) (g+100) gl g
theorem qBB {f:FuncId→Option (Nat×Nat)} {gl:List (Nat×Nat)} {gs:List (Nat×DV×K)} {S:qac} (hlow:(gs.all fun x=>Nat.blt x.1 100)=true)
  (h : ∀x∈gl,∀v k,qbv some none gs x.2=some (v,k)→(∃e,W.shape? x.1=some (e,k.size))∧∃c,At W S x.1 0 k.size c∧RelD W S v (mkV k c)):GOK ⟨f,ql1 gl⟩ (qbv some none gs) W S:=by
 intro g v k hg;change qbv some none gs (ql1 gl g)=_ at hg
 unfold ql1 at hg;rcases qgO (f:=fun x=>x) (z:=g+100) (l:=gl) (n:=g) with h1|⟨x,h1,h2⟩
 ·exfalso
  rw[h1] at hg;rcases qgO (f:=some) (z:=none) (l:=gs) (n:=g+100) with h3|⟨y,h3,-⟩
  ·rw[h3] at hg;cases hg
  ·have:=List.all_eq_true.1 hlow _ h3
   have:=Nat.le_of_ble_eq_true this
   omega
 ·rw[h2] at hg;exact h (g,x) h1 v k hg
end
end Go.Sim
end
section
namespace Go.Sim
def qcf:PC→List (List Nat)→PC×List (List Nat)
 | .seq a b,l=>(.seq (qcf a l).1 (qcf b (qcf a l).2).1,(qcf b (qcf a l).2).2)
 | .cond c x y,l=>(.cond c (qcf x l).1 (qcf y (qcf x l).2).1,(qcf y (qcf x l).2).2)
 | .block id x,l=>(.block id (qcf x l).1,(qcf x l).2)
 | .loop _ x,m::l=>(.loop m (qcf x l).1,(qcf x l).2)
 | .rng f g ps _ a x,m::l=>(.rng f g ps m (qcf a l).1 (qcf x (qcf a l).2).1,(qcf x (qcf a l).2).2)
 |c,l=>(c,l)
def qbN (F:PF) (l:List (List Nat)):PF:=⟨F.nargs,F.results,(qcf F.body l).1⟩
end Go.Sim
end
section
open Go Go.Sim Go.RowKit
namespace Go.Proofs.YtcihddahcplehaaGreatDoor
def qxC:List (Nat×Nat×Nat):=[(2,0,0),(3,1088,0),(4,1089,0),(5,1093,0),(6,1091,0),(7,635,0),(8,634,0),(9,111,0),(10,674,0),(11,110,0),(12,719,0),(13,716,0),(14,720,0),(15,715,0),(16,39,0),(17,767,0),(18,1090,0),(19,504,0),(20,506,0),(21,542,0),(22,538,0),(23,543,0),(24,508,0),(25,1099,0),(26,510,0),(27,511,0),(28,1097,0),(29,801,0),(30,1098,0),(31,918,0),(32,169,0),(33,249,2),(34,721,2),(35,228,1),(36,182,0),(37,183,0),(38,184,0),(39,185,0),(40,186,0),(41,12,0),(42,768,0),(43,179,1),(44,180,2),(45,181,0),(46,24,0),(47,803,0),(48,804,0),(49,50,2),(50,855,2),(51,856,2),(52,857,0),(53,1094,0),(54,1095,0),(55,1096,0),(56,537,0),(57,539,0),(58,540,0),(59,541,0),(60,597,0),(61,552,0),(62,595,0),(63,544,0),(64,598,0),(65,599,0),(66,513,0),(67,600,0),(68,601,0),(69,602,0),(70,545,0),(71,546,0),(72,679,0),(73,1100,0),(74,549,0),(75,550,0),(76,551,0),(77,22,0),(78,879,0),(79,880,0),(80,881,0),(81,882,0),(82,883,0),(83,884,0),(84,885,0),(85,949,0),(86,247,0),(87,248,0),(88,250,2),(89,333,2),(90,266,2),(91,267,0),(92,268,0),(93,269,2),(94,16,0),(95,858,0),(96,262,2),(97,263,0),(98,264,2),(99,265,2),(100,30,0),(101,59,2),(102,724,2),(103,919,0),(104,596,0),(105,676,0),(106,677,0),(107,678,0),(108,106,0),(109,603,0),(110,607,0),(111,685,0),(112,770,0),(113,771,0),(114,1101,0),(115,1023,0),(116,684,0),(117,65,0),(118,933,0),(119,708,2),(120,934,2),(121,332,0),(122,344,0),(124,345,0),(125,18,2),(126,19,2),(127,916,0),(128,371,0),(129,917,2),(130,341,0),(131,342,0),(133,343,0),(134,950,0),(135,769,0),(136,177,0),(137,861,0),(138,1102,0),(139,683,0),(140,71,0),(141,72,0),(142,384,0),(143,945,0),(144,387,0),(145,946,0),(146,947,0),(147,948,0),(148,382,0),(149,383,0),(150,859,0),(151,860,0),(152,259,0),(153,260,0),(154,1103,0),(155,66,0),(156,397,0),(157,399,0),(158,416,0),(159,400,0),(160,966,0),(161,967,0),(162,396,0),(163,920,0),(164,921,0),(165,922,0),(166,923,0),(167,924,0),(168,925,0),(169,405,0),(170,406,0),(171,407,2),(172,408,0),(173,409,0),(174,410,0),(175,411,0),(176,983,0),(177,984,0),(178,951,0),(179,952,0),(180,953,0),(181,512,0),(182,954,0),(183,955,0),(184,412,2),(185,413,2),(186,414,0),(187,415,0),(188,417,0),(189,418,0),(190,996,0),(191,997,0),(192,42,0),(193,44,0),(194,31,0),(195,998,0),(196,999,0),(197,968,0),(198,969,0),(199,970,0),(200,419,2),(201,420,0),(202,421,2),(203,46,0),(206,37,0),(207,36,0),(208,985,0),(209,422,0),(210,423,0),(211,424,0),(212,47,0),(213,48,0),(214,49,0),(215,35,0),(216,43,0),(217,45,0),(218,425,2),(219,426,0),(220,427,0),(222,428,0),(223,429,0),(224,430,0),(225,431,0),(226,432,0),(227,433,0),(228,434,0),(229,435,0),(230,207,0),(231,55,0),(232,56,0),(233,57,0),(234,58,0),(235,436,0),(236,437,0),(237,438,0),(238,439,0),(239,440,0),(240,441,0),(241,442,0),(242,291,0),(243,68,0),(244,443,0),(246,444,0),(247,445,0),(248,446,0),(249,447,0),(250,448,2),(251,449,0),(252,450,0),(253,451,0),(254,452,2),(255,453,0),(256,73,0),(258,454,0),(259,455,0),(260,456,2),(261,457,2),(262,458,2),(263,459,2),(264,460,0),(265,461,0),(266,462,0),(267,463,2),(268,74,0),(269,464,0),(270,465,0),(271,466,0),(272,467,0),(273,109,0),(274,468,0),(275,469,0),(276,470,0),(277,178,0),(278,261,0),(279,337,0),(280,338,0),(281,339,0),(282,340,0),(283,378,0),(284,379,0),(285,380,0),(286,381,0),(287,394,0),(288,395,0),(321,75,0)]
def glL:List (Nat×Nat):=[(8,0),(0,1),(2,4),(1,101),(6,5),(7,6)]
noncomputable def nm:Names:={ f:=qkL qxC,g:=ql1 glL }
def cx:Cx:=⟨qnp qxC⟩
end Go.Proofs.YtcihddahcplehaaGreatDoor
end
