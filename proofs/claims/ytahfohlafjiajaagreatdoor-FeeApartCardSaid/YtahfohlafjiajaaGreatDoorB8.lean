/- Part 8 of the proof: CbC25, CbC25E, CbC25N, CbC25T, CbC28A, CbC28L, CbSimG, CbSimLd, CbDg. -/
import Derived.Test.YtahfohlafjiajaaGreatDoorB2
import Derived.Test.YtahfohlafjiajaaGreatDoorB6
import Derived.Test.YtahfohlafjiajaaGreatDoorB7
import Derived.Test.YtahfohlafjiajaaGreatDoorB5
import Derived.ChangeArms
import Derived.OpenShut
import Derived.Deep.Slices
import Derived.WideShapes
import Derived.ProofKit
import Derived.LaidMore
section
namespace Go.Sim
def qki:PF:=⟨2,[.t 4],
 sq (.reg [
 O 2 (.box (K1 4) (.t 0)),
 O 4 (.mov (.c (.b false)))] [4,0]) (
 sq (.reg [
 O 5 (.load (K1 4) (.t 2)),
 mM 6 1,
 O 7 (.call 0 950 [.t 5,.t 6]),
 mM 8 1,
 O 9 (.bin .gtr (.t 7) (.t 8)),
 mM 4 9] [9,8,7,1,6,2,5]) (
 .ret))⟩
def qlD:PC :=
 sq (sq (.reg [
 mM 7 6,
 mF 8 3 2,
 mL 9 8,
 O 10 (.len false (.t 9)),
 O 11 (.bin .lss (.t 7) (.t 10)),
 mM 12 11,
 OG 13 12 true (.mov (.t 5)),
 OG 14 12 true (.mov (.t 1)),
 OG 15 12 true (.bin .leq (.t 13) (.t 14)),
 O 16 (.pick (.t 12) (.t 15) (.c (.b false)))] [15,14,13,12,11,10,9,8,7]) (
 .cond (.t 16) (.skip)
 (.exit 0))) (
 sq (.block 1 (
 .reg [
 mM 19 5,
 mF 20 3 2,
 mL 21 20,
 mM 22 6,
 O 23 (.iaddr (K1 4) (.t 21) (.t 22)),
 O 24 (.load (K1 4) (.t 23)),
 mM 25 1,
 mM 26 5,
 O 27 (.bin .sub (.t 25) (.t 26)),
 O 28 (.call 0 950 [.t 24,.t 27]),
 O 29 (.bin .add (.t 19) (.t 28)),
 mM 5 29] [29,28,27,26,25,24,23,22,21,20,19])) (
 .reg [
 mM 17 6,
 O 18 (.bin .add (.t 17) (.c (I 1))),
 mM 6 18] [18,17]))
def qkO:PF:=⟨2,[.t 4],
 sq (.reg [
 O 2 (.box (K1 4) (.t 0)),
 mI 4 0] [4,0]) (
 sq (.reg [
 mI 5 1] []) (
 sq (sq (.reg [
 mI 6 0] []) (
 .block 0 (
 .loop [1,2,5,6] qlD))) (
 sq (.reg [
 mM 30 5,
 mM 4 30] [5,30]) (
 .ret))))⟩
def qlh:PC :=
 sq (sq (.reg [
 mM 51 3,
 mF 52 17 1,
 mL 53 52,
 O 54 (.len false (.t 53)),
 O 55 (.bin .lss (.t 51) (.t 54))] [54,53,52,51]) (
 .cond (.t 55) (.skip)
 (.exit 0))) (
 sq (.block 1 (
 sq (.reg [
 mF 58 17 1,
 mL 59 58,
 mM 60 3,
 O 61 (.iaddr (K1 19) (.t 59) (.t 60)),
 O 62 (.load (K1 19) (.t 61)),
 O 63 (.call 0 1095 [.t 62])] [62,61,60,59,58]) (
 .cond (.t 63) (sq (.reg [
 O 2 (.mov (.c (.b true)))] []) (
 .ret))
 (.skip)))) (
 .reg [
 mM 56 3,
 O 57 (.bin .add (.t 56) (.c (I 1))),
 mM 3 57] [57,56]))
def qmR:PC :=
 sq (sq (.reg [
 mM 64 4,
 mF 65 19 1,
 mL 66 65,
 O 67 (.len false (.t 66)),
 O 68 (.bin .lss (.t 64) (.t 67))] [67,66,65,64]) (
 .cond (.t 68) (.skip)
 (.exit 2))) (
 sq (.block 3 (
 sq (.reg [
 mF 71 19 1,
 mL 72 71,
 mM 73 4,
 O 74 (.iaddr (K1 10) (.t 72) (.t 73)),
 O 75 (.load (K1 10) (.t 74)),
 O 76 (.call 0 1096 [.t 75])] [75,74,73,72,71]) (
 .cond (.t 76) (sq (.reg [
 O 2 (.mov (.c (.b true)))] []) (
 .ret))
 (.skip)))) (
 .reg [
 mM 69 4,
 O 70 (.bin .add (.t 69) (.c (I 1))),
 mM 4 70] [70,69]))
def qlI:PC :=
 sq (sq (.reg [
 mM 77 5,
 mF 78 1 1,
 mL 79 78,
 O 80 (.len false (.t 79)),
 O 81 (.bin .lss (.t 77) (.t 80))] [80,79,78,77]) (
 .cond (.t 81) (.skip)
 (.exit 4))) (
 sq (.block 5 (
 sq (.reg [
 mF 84 1 1,
 mL 85 84,
 mM 86 5,
 O 87 (.iaddr (K1 3) (.t 85) (.t 86)),
 mF 88 2 87,
 mL 89 88,
 O 90 (.len false (.t 89)),
 O 91 (.bin .gtr (.t 90) (.c (I 400))),
 mM 92 91,
 OG 93 92 false (.faddr 1 (.t 1)),
 OG 94 92 false (.load K0 (.t 93)),
 OG 95 92 false (.mov (.t 5)),
 OG 96 92 false (.iaddr (K1 3) (.t 94) (.t 95)),
 OG 97 92 false (.faddr 1 (.t 96)),
 OG 98 92 false (.load K0 (.t 97)),
 OG 99 92 false (.len false (.t 98)),
 OG 100 92 false (.bin .gtr (.t 99) (.c (I 20))),
 O 101 (.pick (.t 92) (.c (.b true)) (.t 100))] [100,99,98,97,96,95,94,93,92,91,90,89,88,87,86,85,84]) (
 .cond (.t 101) (sq (.reg [
 O 2 (.mov (.c (.b true)))] []) (
 .ret))
 (.skip)))) (
 .reg [
 mM 82 5,
 O 83 (.bin .add (.t 82) (.c (I 1))),
 mM 5 83] [83,82]))
def qkF:PF:=⟨1,[.t 2],
 sq (.reg [
 O 1 (.box (K1 22) (.t 0)),
 O 2 (.mov (.c (.b false)))] [2,0]) (
 sq (sq (.reg [
 mF 6 0 1,
 mL 7 6,
 O 8 (.len false (.t 7)),
 O 9 (.bin .gtr (.t 8) (.c (I 20))),
 mM 10 9,
 OG 11 10 false (.faddr 1 (.t 1)),
 OG 12 10 false (.load K0 (.t 11)),
 OG 13 10 false (.len false (.t 12)),
 OG 14 10 false (.bin .gtr (.t 13) (.c (I 10))),
 O 15 (.pick (.t 10) (.c (.b true)) (.t 14)),
 mM 16 15,
 OG 17 16 false (.faddr 2 (.t 1)),
 OG 18 16 false (.load K0 (.t 17)),
 OG 19 16 false (.len false (.t 18)),
 OG 20 16 false (.bin .gtr (.t 19) (.c (I 60))),
 O 21 (.pick (.t 16) (.c (.b true)) (.t 20)),
 mM 22 21,
 OG 23 22 false (.faddr 17 (.t 1)),
 OG 24 22 false (.load K0 (.t 23)),
 OG 25 22 false (.len false (.t 24)),
 OG 26 22 false (.bin .gtr (.t 25) (.c (I 20))),
 O 27 (.pick (.t 22) (.c (.b true)) (.t 26)),
 mM 28 27,
 OG 29 28 false (.faddr 18 (.t 1)),
 OG 30 28 false (.load K0 (.t 29)),
 OG 31 28 false (.len false (.t 30)),
 OG 32 28 false (.bin .gtr (.t 31) (.c (I 40))),
 O 33 (.pick (.t 28) (.c (.b true)) (.t 32)),
 mM 34 33,
 OG 35 34 false (.faddr 19 (.t 1)),
 OG 36 34 false (.load K0 (.t 35)),
 OG 37 34 false (.len false (.t 36)),
 OG 38 34 false (.bin .gtr (.t 37) (.c (I 150))),
 O 39 (.pick (.t 34) (.c (.b true)) (.t 38)),
 mM 40 39,
 OG 41 40 false (.faddr 20 (.t 1)),
 OG 42 40 false (.load K0 (.t 41)),
 OG 43 40 false (.call 0 1094 [.t 42]),
 O 44 (.pick (.t 40) (.c (.b true)) (.t 43)),
 mM 45 44,
 OG 46 45 false (.faddr 21 (.t 1)),
 OG 47 45 false (.load K0 (.t 46)),
 OG 48 45 false (.len false (.t 47)),
 OG 49 45 false (.bin .gtr (.t 48) (.c (I 100))),
 O 50 (.pick (.t 45) (.c (.b true)) (.t 49))] [49,48,47,46,45,44,43,42,41,40,39,38,37,36,35,34,33,32,31,30,29,28,27,26,25,24,23,22,21,20,19,18,17,16,15,14,13,12,11,10,9,8,7,6]) (
 .cond (.t 50) (sq (.reg [
 O 2 (.mov (.c (.b true)))] []) (
 .ret))
 (.skip))) (
 sq (sq (.reg [
 mI 3 0] []) (
 .block 0 (
 .loop [1,3] qlh))) (
 sq (sq (.reg [
 mI 4 0] []) (
 .block 2 (
 .loop [1,4] qmR))) (
 sq (sq (.reg [
 mI 5 0] []) (
 .block 4 (
 .loop [1,5] qlI))) (
 sq (.reg [
 O 2 (.mov (.c (.b false)))] []) (
 .ret))))))⟩
def qmh:PC :=
 sq (sq (.reg [
 mM 7 3,
 mM 8 0,
 O 9 (.len false (.t 8)),
 O 10 (.bin .lss (.t 7) (.t 9))] [9,8,7]) (
 .cond (.t 10) (.skip)
 (.exit 0))) (
 sq (.block 1 (
 sq (.reg [
 mM 13 0,
 mM 14 3,
 O 15 (.iaddr (K1 6) (.t 13) (.t 14)),
 mF 16 5 15,
 mL 17 16,
 O 18 (.len true (.t 17)),
 O 19 (.bin .gtr (.t 18) (.c (I 200)))] [18,17,16,15,14,13]) (
 .cond (.t 19) (sq (.reg [
 O 2 (.mov (.c (.b true)))] []) (
 .ret))
 (.skip)))) (
 .reg [
 mM 11 3,
 O 12 (.bin .add (.t 11) (.c (I 1))),
 mM 3 12] [12,11]))
def qjH:PF:=⟨1,[.t 2],
 sq (.reg [
 O 2 (.mov (.c (.b false)))] [2]) (
 sq (sq (.reg [
 mM 4 0,
 O 5 (.len false (.t 4)),
 O 6 (.bin .gtr (.t 5) (.c (I 100)))] [5,4]) (
 .cond (.t 6) (sq (.reg [
 O 2 (.mov (.c (.b true)))] []) (
 .ret))
 (.skip))) (
 sq (sq (.reg [
 mI 3 0] []) (
 .block 0 (
 .loop [0,3] qmh))) (
 sq (.reg [
 O 2 (.mov (.c (.b false)))] []) (
 .ret))))⟩
def qmN:PC :=
 sq (sq (.reg [
 mM 47 3,
 mF 48 17 1,
 mL 49 48,
 O 50 (.len false (.t 49)),
 O 51 (.bin .lss (.t 47) (.t 50))] [50,49,48,47]) (
 .cond (.t 51) (.skip)
 (.exit 0))) (
 sq (.block 1 (
 sq (.reg [
 mF 54 17 1,
 mL 55 54,
 mM 56 3,
 O 57 (.iaddr (K1 10) (.t 55) (.t 56)),
 mF 58 0 57,
 mL 59 58,
 O 60 (.len true (.t 59)),
 O 61 (.bin .gtr (.t 60) (.c (I 100))),
 mM 62 61,
 OG 63 62 false (.faddr 17 (.t 1)),
 OG 64 62 false (.load K0 (.t 63)),
 OG 65 62 false (.mov (.t 3)),
 OG 66 62 false (.iaddr (K1 10) (.t 64) (.t 65)),
 OG 67 62 false (.faddr 2 (.t 66)),
 OG 68 62 false (.load (K1 4) (.t 67)),
 OG 69 62 false (.call 0 919 [.t 68,(.c (I 100))]),
 O 70 (.pick (.t 62) (.c (.b true)) (.t 69)),
 mM 71 70,
 OG 72 71 false (.faddr 17 (.t 1)),
 OG 73 71 false (.load K0 (.t 72)),
 OG 74 71 false (.mov (.t 3)),
 OG 75 71 false (.iaddr (K1 10) (.t 73) (.t 74)),
 OG 76 71 false (.faddr 6 (.t 75)),
 OG 77 71 false (.load (K1 4) (.t 76)),
 OG 78 71 false (.call 0 919 [.t 77,(.c (I 100))]),
 O 79 (.pick (.t 71) (.c (.b true)) (.t 78))] [78,77,76,75,74,73,72,71,70,69,68,67,66,65,64,63,62,61,60,59,58,57,56,55,54]) (
 .cond (.t 79) (sq (.reg [
 O 2 (.mov (.c (.b true)))] []) (
 .ret))
 (.skip)))) (
 .reg [
 mM 52 3,
 O 53 (.bin .add (.t 52) (.c (I 1))),
 mM 3 53] [53,52]))
def qmL:PC :=
 sq (sq (.reg [
 mM 80 4,
 mF 81 18 1,
 mL 82 81,
 O 83 (.len false (.t 82)),
 O 84 (.bin .lss (.t 80) (.t 83))] [83,82,81,80]) (
 .cond (.t 84) (.skip)
 (.exit 2))) (
 sq (.block 3 (
 sq (.reg [
 mF 87 18 1,
 mL 88 87,
 mM 89 4,
 O 90 (.iaddr (K1 6) (.t 88) (.t 89)),
 mF 91 0 90,
 mL 92 91,
 O 93 (.len true (.t 92)),
 O 94 (.bin .gtr (.t 93) (.c (I 100))),
 mM 95 94,
 OG 96 95 false (.faddr 18 (.t 1)),
 OG 97 95 false (.load K0 (.t 96)),
 OG 98 95 false (.mov (.t 4)),
 OG 99 95 false (.iaddr (K1 6) (.t 97) (.t 98)),
 OG 100 95 false (.faddr 2 (.t 99)),
 OG 101 95 false (.load (K1 4) (.t 100)),
 OG 102 95 false (.call 0 919 [.t 101,(.c (I 100))]),
 O 103 (.pick (.t 95) (.c (.b true)) (.t 102))] [102,101,100,99,98,97,96,95,94,93,92,91,90,89,88,87]) (
 .cond (.t 103) (sq (.reg [
 O 2 (.mov (.c (.b true)))] []) (
 .ret))
 (.skip)))) (
 .reg [
 mM 85 4,
 O 86 (.bin .add (.t 85) (.c (I 1))),
 mM 4 86] [86,85]))
def qkg:PF:=⟨1,[.t 2],
 sq (.reg [
 O 1 (.box (K1 19) (.t 0)),
 O 2 (.mov (.c (.b false)))] [2,0]) (
 sq (sq (.reg [
 mF 5 0 1,
 mL 6 5,
 O 7 (.len true (.t 6)),
 O 8 (.bin .gtr (.t 7) (.c (I 100))),
 mM 9 8,
 OG 10 9 false (.faddr 1 (.t 1)),
 OG 11 9 false (.load K0 (.t 10)),
 OG 12 9 false (.len true (.t 11)),
 OG 13 9 false (.bin .gtr (.t 12) (.c (I 100))),
 O 14 (.pick (.t 9) (.c (.b true)) (.t 13)),
 mM 15 14,
 OG 16 15 false (.faddr 2 (.t 1)),
 OG 17 15 false (.load K0 (.t 16)),
 OG 18 15 false (.len true (.t 17)),
 OG 19 15 false (.bin .gtr (.t 18) (.c (I 100))),
 O 20 (.pick (.t 15) (.c (.b true)) (.t 19)),
 mM 21 20,
 OG 22 21 false (.faddr 7 (.t 1)),
 OG 23 21 false (.faddr 0 (.t 22)),
 OG 24 21 false (.load K0 (.t 23)),
 OG 25 21 false (.len false (.t 24)),
 OG 26 21 false (.bin .gtr (.t 25) (.c (I 20))),
 O 27 (.pick (.t 21) (.c (.b true)) (.t 26)),
 mM 28 27,
 OG 29 28 false (.faddr 12 (.t 1)),
 OG 30 28 false (.faddr 0 (.t 29)),
 OG 31 28 false (.load K0 (.t 30)),
 OG 32 28 false (.len false (.t 31)),
 OG 33 28 false (.bin .gtr (.t 32) (.c (I 20))),
 O 34 (.pick (.t 28) (.c (.b true)) (.t 33)),
 mM 35 34,
 OG 36 35 false (.faddr 17 (.t 1)),
 OG 37 35 false (.load K0 (.t 36)),
 OG 38 35 false (.len false (.t 37)),
 OG 39 35 false (.bin .gtr (.t 38) (.c (I 10))),
 O 40 (.pick (.t 35) (.c (.b true)) (.t 39)),
 mM 41 40,
 OG 42 41 false (.faddr 18 (.t 1)),
 OG 43 41 false (.load K0 (.t 42)),
 OG 44 41 false (.len false (.t 43)),
 OG 45 41 false (.bin .gtr (.t 44) (.c (I 10))),
 O 46 (.pick (.t 41) (.c (.b true)) (.t 45))] [45,44,43,42,41,40,39,38,37,36,35,34,33,32,31,30,29,28,27,26,25,24,23,22,21,20,19,18,17,16,15,14,13,12,11,10,9,8,7,6,5]) (
 .cond (.t 46) (sq (.reg [
 O 2 (.mov (.c (.b true)))] []) (
 .ret))
 (.skip))) (
 sq (sq (.reg [
 mI 3 0] []) (
 .block 0 (
 .loop [1,3] qmN))) (
 sq (sq (.reg [
 mI 4 0] []) (
 .block 2 (
 .loop [1,4] qmL))) (
 sq (.reg [
 O 2 (.mov (.c (.b false)))] []) (
 .ret)))))⟩
def qlb:PC :=
 sq (sq (.reg [
 mM 20 3,
 mF 21 8 1,
 mL 22 21,
 O 23 (.len false (.t 22)),
 O 24 (.bin .lss (.t 20) (.t 23))] [23,22,21,20]) (
 .cond (.t 24) (.skip)
 (.exit 0))) (
 sq (.block 1 (
 sq (.reg [
 mF 27 8 1,
 mL 28 27,
 mM 29 3,
 O 30 (.iaddr (K1 3) (.t 28) (.t 29)),
 mF 31 2 30,
 mL 32 31,
 O 33 (.len true (.t 32)),
 O 34 (.bin .gtr (.t 33) (.c (I 100)))] [33,32,31,30,29,28,27]) (
 .cond (.t 34) (sq (.reg [
 O 2 (.mov (.c (.b true)))] []) (
 .ret))
 (.skip)))) (
 .reg [
 mM 25 3,
 O 26 (.bin .add (.t 25) (.c (I 1))),
 mM 3 26] [26,25]))
def qjz:PF:=⟨1,[.t 2],
 sq (.reg [
 O 1 (.box (K1 10) (.t 0)),
 O 2 (.mov (.c (.b false)))] [2,0]) (
 sq (sq (.reg [
 mF 4 8 1,
 mL 5 4,
 O 6 (.len false (.t 5)),
 O 7 (.bin .gtr (.t 6) (.c (I 30))),
 mM 8 7,
 OG 9 8 false (.faddr 6 (.t 1)),
 OG 10 8 false (.load K0 (.t 9)),
 OG 11 8 false (.len true (.t 10)),
 OG 12 8 false (.bin .gtr (.t 11) (.c (I 1000))),
 O 13 (.pick (.t 8) (.c (.b true)) (.t 12)),
 mM 14 13,
 OG 15 14 false (.faddr 7 (.t 1)),
 OG 16 14 false (.load K0 (.t 15)),
 OG 17 14 false (.len true (.t 16)),
 OG 18 14 false (.bin .gtr (.t 17) (.c (I 1000))),
 O 19 (.pick (.t 14) (.c (.b true)) (.t 18))] [18,17,16,15,14,13,12,11,10,9,8,7,6,5,4]) (
 .cond (.t 19) (sq (.reg [
 O 2 (.mov (.c (.b true)))] []) (
 .ret))
 (.skip))) (
 sq (sq (.reg [
 mI 3 0] []) (
 .block 0 (
 .loop [1,3] qlb))) (
 sq (.reg [
 O 2 (.mov (.c (.b false)))] []) (
 .ret))))⟩
end Go.Sim
end
section
namespace Go.Sim
def F66:PF:=⟨1,[.t 2],
 sq (.reg [
 O 2 (.mov (.c (.b false)))] [2]) (
 sq (.reg [
 mM 3 0,
 O 4 (.bin .rem (.t 3) (.c (I 4))),
 O 5 (.bin .eql (.t 4) (.c (I 0))),
 mM 6 5,
 OG 7 6 true (.mov (.t 0)),
 OG 8 6 true (.bin .rem (.t 7) (.c (I 100))),
 OG 9 6 true (.bin .neq (.t 8) (.c (I 0))),
 OG 10 6 true (.mov (.t 9)),
 OG 11 10 false (.mov (.t 0)),
 OG 12 10 false (.bin .rem (.t 11) (.c (I 400))),
 OG 13 10 false (.bin .eql (.t 12) (.c (I 0))),
 OG 14 6 true (.pick (.t 10) (.c (.b true)) (.t 13)),
 O 15 (.pick (.t 6) (.t 14) (.c (.b false))),
 mM 2 15] [15,14,13,12,11,10,9,8,7,6,5,4,0,3]) (
 .ret))⟩
end Go.Sim
end
section
namespace Go.Sim
end Go.Sim
end
section
namespace Go.Sim
def F31:PF:=⟨2,[.c 4 (K1 2),.t 5],
 sq (.reg [
 O 2 (.box (K1 2) (.t 0)),
 O 3 (.box (K1 2) (.t 1)),
 O 4 (.alloc (K1 2) (.a [I 0,(.i .u64 0)])),
 mI 5 0] [5,1,0]) (
 sq (.reg [
 mF 10 1 2,
 mL 11 10,
 mF 12 1 3,
 mL 13 12,
 O 14 (.prim 0 [.t 11,.t 13,(.c (.i .u64 0))]),
 mM 9 14,
 mX 15 9 0,
 mX 16 9 1,
 mM 6 15,
 mM 7 16] [16,15,9,14,13,12,11,10]) (
 sq (.reg [
 mF 17 0 2,
 mL 18 17,
 mF 19 0 3,
 mL 20 19,
 O 21 (.bin .add (.t 18) (.t 20)),
 mM 22 7,
 O 23 (.conv .i64 (.t 22)),
 O 24 (.bin .add (.t 21) (.t 23)),
 mM 8 24] [24,23,7,22,21,20,19,18,17]) (
 sq (sq (.reg [
 mF 25 0 2,
 mL 26 25,
 O 27 (.bin .lss (.t 26) (.c (I 0))),
 mF 28 0 3,
 mL 29 28,
 O 30 (.bin .lss (.t 29) (.c (I 0))),
 O 31 (.eqb false (.t 27) (.t 30)),
 mM 32 31,
 OG 33 32 true (.mov (.t 8)),
 OG 34 32 true (.bin .lss (.t 33) (.c (I 0))),
 OG 35 32 true (.faddr 0 (.t 2)),
 OG 36 32 true (.load K0 (.t 35)),
 OG 37 32 true (.bin .lss (.t 36) (.c (I 0))),
 OG 38 32 true (.eqb true (.t 34) (.t 37)),
 O 39 (.pick (.t 32) (.t 38) (.c (.b false)))] [38,37,36,35,34,33,32,31,30,29,3,28,27,26,2,25]) (
 .cond (.t 39) (sq (.reg [
 O 40 (.agg [I 0,(.i .u64 0)] []),
 E (.store (K1 2) (.t 4) (.t 40)),
 mI 5 6] [40]) (
 .ret))
 (.skip))) (
 sq (.reg [
 mM 41 8,
 mM 42 6,
 O 43 (.agg [I 0,(.i .u64 0)] [(0,K0,(.t 41)),(1,K0,(.t 42))]),
 E (.store (K1 2) (.t 4) (.t 43)),
 mI 5 0] [43,6,42,8,41]) (
 .ret)))))⟩
def F35:PF:=⟨1,[.t 2],
 sq (.reg [
 O 2 (.mov (.c (.b false)))] [2]) (
 sq (.reg [
 mM 3 0,
 O 4 (.bin .geq (.t 3) (.c (I 1))),
 mM 5 4,
 OG 6 5 true (.mov (.t 0)),
 OG 7 5 true (.bin .leq (.t 6) (.c (I 6))),
 O 8 (.pick (.t 5) (.t 7) (.c (.b false))),
 mM 2 8] [8,7,6,5,4,0,3]) (
 .ret))⟩
def F36:PF:=⟨3,[.t 6,.t 7],
 sq (.reg [
 O 3 (.box (K1 2) (.t 0)),
 mI 6 0,
 mI 7 0] [7,6,0]) (
 sq (sq (.reg [
 mM 13 1,
 O 14 (.bin .lss (.t 13) (.c (I 1))),
 mM 15 14,
 OG 16 15 false (.mov (.t 2)),
 OG 17 15 false (.call 0 35 [.t 16]),
 OG 18 15 false (.un .not (.t 17)),
 O 19 (.pick (.t 15) (.c (.b true)) (.t 18))] [18,17,16,15,14,13]) (
 .cond (.t 19) (sq (.reg [
 mI 6 0,
 mI 7 1] []) (
 .ret))
 (.skip))) (
 sq (.reg [
 O 21 (.load (K1 2) (.t 3)),
 mM 22 1,
 O 23 (.call 0 43 [.t 21,.t 22]),
 mM 20 23,
 mX 24 20 0,
 mX 25 20 1,
 mX 26 20 2,
 O 8 (.alloc (K1 2) (.a [I 0,(.i .u64 0)])),
 E (.store (K1 2) (.t 8) (.t 24)),
 mM 9 25,
 mM 10 26] [10,26,25,24,20,23,22,3,21]) (
 sq (sq (.reg [
 mM 27 9,
 O 28 (.bin .gtr (.t 27) (.c (I 0)))] [27]) (
 .cond (.t 28) (.regD [
 O 30 (.load (K1 2) (.t 8)),
 O 31 (.load (K1 2) (.t 8)),
 mM 32 9,
 mM 33 1,
 mM 34 2,
 O 35 (.call 0 45 [.t 31,.t 32,.t 33,.t 34]),
 O 36 (.call 0 44 [.t 35]),
 O 37 (.call 0 31 [.t 30,.t 36]),
 mM 29 37,
 mX 38 29 0,
 mX 39 29 1,
 E (.store (K1 2) (.t 8) (.t 38))] [0,0,0,0,0,30,62,127,255,511,511,1023] [39,38,29,37,36,35,2,34,1,33,9,32,31,30])
 (.skip))) (
 sq (.reg [
 O 41 (.load (K1 2) (.t 8)),
 O 42 (.call 0 46 [.t 41]),
 mM 40 42,
 mX 43 40 0,
 mX 44 40 1,
 mM 11 43,
 mM 12 44] [44,43,40,42,8,41]) (
 sq (sq (.reg [
 mM 45 12,
 O 46 (.un .not (.t 45))] [12,45]) (
 .cond (.t 46) (sq (.reg [
 mI 6 0,
 mI 7 6] []) (
 .ret))
 (.skip))) (
 sq (.reg [
 mM 47 11,
 mM 6 47,
 mI 7 0] [11,47]) (
 .ret)))))))⟩
def F37:PF:=⟨2,[.c 4 (K1 2)],
 sq (.reg [
 O 4 (.alloc (K1 2) (.a [I 0,(.i .u64 0)]))] []) (
 sq (.reg [
 mM 9 0,
 O 10 (.call 0 48 [.t 9]),
 mM 11 1,
 O 12 (.call 0 48 [.t 11]),
 O 13 (.call 0 47 [.t 10,.t 12]),
 mM 8 13,
 mX 14 8 0,
 mX 15 8 1,
 mM 5 14,
 mM 6 15] [15,14,8,13,12,11,10,9]) (
 sq (.reg [
 mM 16 5,
 O 17 (.conv .i64 (.t 16)),
 mM 18 6,
 O 19 (.agg [I 0,(.i .u64 0)] [(0,K0,(.t 17)),(1,K0,(.t 18))]),
 O 7 (.alloc (K1 2) (.a [I 0,(.i .u64 0)])),
 E (.store (K1 2) (.t 7) (.t 19))] [19,6,18,17,5,16]) (
 sq (sq (.reg [
 mM 20 0,
 O 21 (.bin .lss (.t 20) (.c (I 0))),
 mM 22 1,
 O 23 (.bin .lss (.t 22) (.c (I 0))),
 O 24 (.eqb true (.t 21) (.t 23))] [23,1,22,21,0,20]) (
 .cond (.t 24) (.reg [
 O 25 (.load (K1 2) (.t 7)),
 O 26 (.call 0 49 [.t 25]),
 E (.store (K1 2) (.t 7) (.t 26))] [26,25])
 (.skip))) (
 sq (.reg [
 O 27 (.load (K1 2) (.t 7)),
 E (.store (K1 2) (.t 4) (.t 27))] [7,27]) (
 .ret)))))⟩
def F42:PF:=⟨2,[.c 4 (K1 2),.t 5],
 sq (.reg [
 O 2 (.box (K1 2) (.t 0)),
 O 3 (.box (K1 2) (.t 1)),
 O 4 (.alloc (K1 2) (.a [I 0,(.i .u64 0)])),
 mI 5 0] [5,1,0]) (
 sq (.reg [
 mF 10 1 2,
 mL 11 10,
 mF 12 1 3,
 mL 13 12,
 O 14 (.prim 1 [.t 11,.t 13,(.c (.i .u64 0))]),
 mM 9 14,
 mX 15 9 0,
 mX 16 9 1,
 mM 6 15,
 mM 7 16] [16,15,9,14,13,12,11,10]) (
 sq (.reg [
 mF 17 0 2,
 mL 18 17,
 mF 19 0 3,
 mL 20 19,
 O 21 (.bin .sub (.t 18) (.t 20)),
 mM 22 7,
 O 23 (.conv .i64 (.t 22)),
 O 24 (.bin .sub (.t 21) (.t 23)),
 mM 8 24] [24,23,7,22,21,20,19,18,17]) (
 sq (sq (.reg [
 mF 25 0 2,
 mL 26 25,
 O 27 (.bin .lss (.t 26) (.c (I 0))),
 mF 28 0 3,
 mL 29 28,
 O 30 (.bin .lss (.t 29) (.c (I 0))),
 O 31 (.eqb true (.t 27) (.t 30)),
 mM 32 31,
 OG 33 32 true (.mov (.t 8)),
 OG 34 32 true (.bin .lss (.t 33) (.c (I 0))),
 OG 35 32 true (.faddr 0 (.t 2)),
 OG 36 32 true (.load K0 (.t 35)),
 OG 37 32 true (.bin .lss (.t 36) (.c (I 0))),
 OG 38 32 true (.eqb true (.t 34) (.t 37)),
 O 39 (.pick (.t 32) (.t 38) (.c (.b false)))] [38,37,36,35,34,33,32,31,30,29,3,28,27,26,2,25]) (
 .cond (.t 39) (sq (.reg [
 O 40 (.agg [I 0,(.i .u64 0)] []),
 E (.store (K1 2) (.t 4) (.t 40)),
 mI 5 6] [40]) (
 .ret))
 (.skip))) (
 sq (.reg [
 mM 41 8,
 mM 42 6,
 O 43 (.agg [I 0,(.i .u64 0)] [(0,K0,(.t 41)),(1,K0,(.t 42))]),
 E (.store (K1 2) (.t 4) (.t 43)),
 mI 5 0] [43,6,42,8,41]) (
 .ret)))))⟩
def F43:PF:=⟨2,[.c 4 (K1 2),.t 5,.t 6],
 sq (.reg [
 O 2 (.box (K1 2) (.t 0)),
 O 4 (.alloc (K1 2) (.a [I 0,(.i .u64 0)])),
 mI 5 0,
 mI 6 0] [6,5,0]) (
 sq (sq (.reg [
 mM 11 1,
 O 12 (.bin .lss (.t 11) (.c (I 1)))] [11]) (
 .cond (.t 12) (sq (.reg [
 O 13 (.agg [I 0,(.i .u64 0)] []),
 E (.store (K1 2) (.t 4) (.t 13)),
 mI 5 0,
 mI 6 1] [13]) (
 .ret))
 (.skip))) (
 sq (.reg [
 O 15 (.load (K1 2) (.t 2)),
 O 16 (.call 0 55 [.t 15]),
 mM 17 1,
 O 18 (.conv .u64 (.t 17)),
 O 19 (.call 0 56 [.t 16,.t 18]),
 mM 14 19,
 mX 20 14 0,
 mX 21 14 1,
 O 7 (.alloc (K1 2) (.a [(.i .u64 0),(.i .u64 0)])),
 E (.store (K1 2) (.t 7) (.t 20)),
 mM 8 21] [21,20,14,19,18,17,16,15]) (
 sq (sq (.reg [
 mF 22 0 2,
 mL 23 22,
 O 24 (.bin .lss (.t 23) (.c (I 0))),
 mM 25 24,
 OG 26 25 true (.mov (.t 8)),
 OG 27 25 true (.bin .gtr (.t 26) (.c (.i .u64 0))),
 O 28 (.pick (.t 25) (.t 27) (.c (.b false)))] [27,26,25,24,23,22]) (
 .cond (.t 28) (sq (.reg [
 O 30 (.load (K1 2) (.t 7)),
 O 31 (.call 0 57 [.t 30,(.c (.i .u64 1)),(.c (.i .u64 1))]),
 mM 29 31,
 mX 32 29 0,
 mX 33 29 1,
 E (.store (K1 2) (.t 7) (.t 32))] [33,32,29,31,30]) (
 .reg [
 mM 34 1,
 O 35 (.conv .u64 (.t 34)),
 mM 36 8,
 O 37 (.bin .sub (.t 35) (.t 36)),
 mM 8 37] [37,36,35,1,34]))
 (.skip))) (
 sq (.regD [
 O 39 (.load (K1 2) (.t 7)),
 mF 40 0 2,
 mL 41 40,
 O 42 (.bin .lss (.t 41) (.c (I 0))),
 mM 43 42,
 OG 44 43 true (.load (K1 2) (.t 7)),
 OG 45 43 true (.agg [(.i .u64 0),(.i .u64 0)] []),
 OG 46 43 true (.eqv true [1,1] (.t 44) (.t 45)),
 O 47 (.pick (.t 43) (.t 46) (.c (.b false))),
 O 48 (.call 0 58 [.t 39,.t 47]),
 mM 38 48,
 mX 49 38 0,
 mX 50 38 1,
 O 9 (.alloc (K1 2) (.a [I 0,(.i .u64 0)])),
 E (.store (K1 2) (.t 9) (.t 49)),
 mM 10 50] [0,0,2,6,14,30,30,126,254,511,1023,2047,2047,0,12287,32767] [10,50,49,38,48,47,46,45,44,43,42,41,2,40,7,39]) (
 sq (.reg [
 O 51 (.load (K1 2) (.t 9)),
 mM 52 8,
 O 53 (.conv .i64 (.t 52)),
 E (.store (K1 2) (.t 4) (.t 51)),
 mM 5 53,
 mI 6 0] [53,8,52,9,51]) (
 .ret))))))⟩
def F44:PF:=⟨1,[.c 2 (K1 2)],
 sq (.reg [
 O 2 (.alloc (K1 2) (.a [I 0,(.i .u64 0)]))] []) (
 sq (.reg [
 mM 3 0,
 O 4 (.bin .shr (.t 3) (.c (.i .u64 63))),
 mM 5 0,
 O 6 (.conv .u64 (.t 5)),
 O 7 (.agg [I 0,(.i .u64 0)] [(0,K0,(.t 4)),(1,K0,(.t 6))]),
 E (.store (K1 2) (.t 2) (.t 7))] [7,6,5,4,0,3]) (
 .ret))⟩
def F45:PF:=⟨4,[.t 8],
 sq (.reg [
 O 4 (.box (K1 2) (.t 0)),
 mI 8 0] [8,0]) (
 sq (.reg [
 mF 10 0 4,
 mL 11 10,
 O 12 (.bin .lss (.t 11) (.c (I 0))),
 mM 9 12] [12,11,10]) (
 sq (sq (.reg [
 mM 13 3,
 O 14 (.bin .lss (.t 13) (.c (I 5)))] [13]) (
 .cond (.t 14) (sq (sq (.reg [
 mM 15 9] [9]) (
 .cond (.t 15) (sq (.reg [
 mM 16 3,
 O 17 (.iaddrA 5 (K1 2) (.g 1) (.t 16)),
 mF 18 0 17,
 mL 19 18,
 mM 8 19] [19,18,17,3,16]) (
 .ret))
 (.skip))) (
 sq (.reg [
 mM 20 3,
 O 21 (.iaddrA 5 (K1 2) (.g 1) (.t 20)),
 mF 22 1 21,
 mL 23 22,
 mM 8 23] [23,22,21,3,20]) (
 .ret)))
 (.skip))) (
 sq (.block 0 (
 sq (.reg [
 mM 25 1,
 mM 26 2,
 mM 27 1,
 O 28 (.bin .sub (.t 26) (.t 27)),
 O 29 (.bin .gtr (.t 25) (.t 28)),
 mM 24 29] [29,28,27,26,25]) (
 .cond (.t 24) (sq (.reg [
 mI 8 1] []) (
 .ret))
 (sq (.reg [
 mM 31 1,
 mM 32 2,
 mM 33 1,
 O 34 (.bin .sub (.t 32) (.t 33)),
 O 35 (.bin .lss (.t 31) (.t 34)),
 mM 30 35] [35,34,33,2,32,1,31]) (
 .cond (.t 30) (sq (.reg [
 mI 8 0] []) (
 .ret))
 (sq (.reg [
 mM 37 3,
 O 38 (.bin .eql (.t 37) (.c (I 6))),
 mM 36 38] [38,3,37]) (
 .cond (.t 36) (sq (.reg [
 mF 39 1 4,
 mL 40 39,
 O 41 (.bin .and (.t 40) (.c (.i .u64 1))),
 O 42 (.conv .i64 (.t 41)),
 mM 8 42] [42,41,40,4,39]) (
 .ret))
 (sq (.reg [
 mM 44 9,
 mM 43 44] [9,44]) (
 .cond (.t 43) (sq (.reg [
 mI 8 0] []) (
 .ret))
 (.skip)))))))))) (
 sq (.reg [
 mI 8 1] []) (
 .ret)))))⟩
def F46:PF:=⟨1,[.t 2,.t 3],
 sq (.reg [
 O 1 (.box (K1 2) (.t 0)),
 mI 2 0,
 O 3 (.mov (.c (.b false)))] [3,2,0]) (
 sq (.reg [
 mF 5 1 1,
 mL 6 5,
 O 7 (.conv .i64 (.t 6)),
 mM 4 7] [7,6,5]) (
 sq (sq (.regD [
 mM 8 4,
 O 9 (.call 0 44 [.t 8]),
 O 10 (.load (K1 2) (.t 1)),
 O 11 (.eqv true [1,1] (.t 9) (.t 10))] [0,1,0,7] [1,10,9,8]) (
 .cond (.t 11) (sq (.reg [
 mI 2 0,
 O 3 (.mov (.c (.b false)))] []) (
 .ret))
 (.skip))) (
 sq (.reg [
 mM 12 4,
 mM 2 12,
 O 3 (.mov (.c (.b true)))] [4,12]) (
 .ret))))⟩
def F47:PF:=⟨2,[.t 4,.t 5],
 sq (.reg [
 O 4 (.mov (.c (.i .u64 0))),
 O 5 (.mov (.c (.i .u64 0)))] [5,4]) (
 sq (.reg [
 mM 14 0,
 O 15 (.bin .and (.t 14) (.c (.i .u64 4294967295))),
 mM 6 15] [15,14]) (
 sq (.reg [
 mM 16 0,
 O 17 (.bin .shr (.t 16) (.c (.i .u64 32))),
 mM 7 17] [17,16]) (
 sq (.reg [
 mM 18 1,
 O 19 (.bin .and (.t 18) (.c (.i .u64 4294967295))),
 mM 8 19] [19,18]) (
 sq (.reg [
 mM 20 1,
 O 21 (.bin .shr (.t 20) (.c (.i .u64 32))),
 mM 9 21] [21,20]) (
 sq (.reg [
 mM 22 6,
 mM 23 8,
 O 24 (.bin .mul (.t 22) (.t 23)),
 mM 10 24] [24,23,22]) (
 sq (.reg [
 mM 25 7,
 mM 26 8,
 O 27 (.bin .mul (.t 25) (.t 26)),
 mM 28 10,
 O 29 (.bin .shr (.t 28) (.c (.i .u64 32))),
 O 30 (.bin .add (.t 27) (.t 29)),
 mM 11 30] [30,29,10,28,27,8,26,25]) (
 sq (.reg [
 mM 31 11,
 O 32 (.bin .and (.t 31) (.c (.i .u64 4294967295))),
 mM 12 32] [32,31]) (
 sq (.reg [
 mM 33 11,
 O 34 (.bin .shr (.t 33) (.c (.i .u64 32))),
 mM 13 34] [34,11,33]) (
 sq (.reg [
 mM 35 12,
 mM 36 6,
 mM 37 9,
 O 38 (.bin .mul (.t 36) (.t 37)),
 O 39 (.bin .add (.t 35) (.t 38)),
 mM 12 39] [39,38,37,6,36,35]) (
 sq (.reg [
 mM 40 7,
 mM 41 9,
 O 42 (.bin .mul (.t 40) (.t 41)),
 mM 43 13,
 O 44 (.bin .add (.t 42) (.t 43)),
 mM 45 12,
 O 46 (.bin .shr (.t 45) (.c (.i .u64 32))),
 O 47 (.bin .add (.t 44) (.t 46)),
 mM 4 47] [47,46,12,45,44,13,43,42,9,41,7,40]) (
 sq (.reg [
 mM 48 0,
 mM 49 1,
 O 50 (.bin .mul (.t 48) (.t 49)),
 mM 5 50] [50,1,49,0,48]) (
 .ret))))))))))))⟩
def F48:PF:=⟨1,[.t 2],
 sq (.reg [
 O 2 (.mov (.c (.i .u64 0)))] [2]) (
 sq (sq (.reg [
 mM 3 0,
 O 4 (.bin .lss (.t 3) (.c (I 0)))] [3]) (
 .cond (.t 4) (sq (.reg [
 mM 5 0,
 O 6 (.conv .u64 (.t 5)),
 O 7 (.un .neg (.t 6)),
 mM 2 7] [7,6,0,5]) (
 .ret))
 (.skip))) (
 sq (.reg [
 mM 8 0,
 O 9 (.conv .u64 (.t 8)),
 mM 2 9] [9,0,8]) (
 .ret)))⟩
def F49:PF:=⟨1,[.c 2 (K1 2)],
 sq (.reg [
 O 1 (.box (K1 2) (.t 0)),
 O 2 (.alloc (K1 2) (.a [I 0,(.i .u64 0)]))] [0]) (
 sq (.reg [
 mF 6 1 1,
 mL 7 6,
 O 8 (.un .xor (.t 7)),
 O 9 (.prim 0 [.t 8,(.c (.i .u64 1)),(.c (.i .u64 0))]),
 mM 5 9,
 mX 10 5 0,
 mX 11 5 1,
 mM 3 10,
 mM 4 11] [11,10,5,9,8,7,6]) (
 sq (.reg [
 mF 12 0 1,
 mL 13 12,
 O 14 (.un .xor (.t 13)),
 O 15 (.conv .u64 (.t 14)),
 mM 16 4,
 O 17 (.bin .add (.t 15) (.t 16)),
 O 18 (.conv .i64 (.t 17)),
 mM 19 3,
 O 20 (.agg [I 0,(.i .u64 0)] [(0,K0,(.t 18)),(1,K0,(.t 19))]),
 E (.store (K1 2) (.t 2) (.t 20))] [20,3,19,18,17,4,16,15,14,13,1,12]) (
 .ret)))⟩
def F55:PF:=⟨1,[.c 2 (K1 2)],
 sq (.reg [
 O 1 (.box (K1 2) (.t 0)),
 O 2 (.alloc (K1 2) (.a [(.i .u64 0),(.i .u64 0)]))] [0]) (
 sq (sq (.reg [
 mF 3 0 1,
 mL 4 3,
 O 5 (.bin .lss (.t 4) (.c (I 0)))] [4,3]) (
 .cond (.t 5) (.reg [
 O 6 (.load (K1 2) (.t 1)),
 O 7 (.call 0 49 [.t 6]),
 E (.store (K1 2) (.t 1) (.t 7))] [7,6])
 (.skip))) (
 sq (.reg [
 mF 8 0 1,
 mL 9 8,
 O 10 (.conv .u64 (.t 9)),
 mF 11 1 1,
 mL 12 11,
 O 13 (.agg [(.i .u64 0),(.i .u64 0)] [(0,K0,(.t 10)),(1,K0,(.t 12))]),
 E (.store (K1 2) (.t 2) (.t 13))] [13,12,11,10,9,1,8]) (
 .ret)))⟩
def F56:PF:=⟨2,[.c 4 (K1 2),.t 5],
 sq (.reg [
 O 2 (.box (K1 2) (.t 0)),
 O 4 (.alloc (K1 2) (.a [(.i .u64 0),(.i .u64 0)])),
 O 5 (.mov (.c (.i .u64 0)))] [5,0]) (
 sq (.regD [
 mF 9 0 2,
 mL 10 9,
 mM 11 1,
 O 12 (.bin .rem (.t 10) (.t 11)),
 mF 13 1 2,
 mL 14 13,
 mM 15 1,
 O 16 (.call 0 68 [.t 12,.t 14,.t 15]),
 mM 8 16,
 mX 17 8 0,
 mX 18 8 1,
 mM 6 17,
 mM 7 18] [0,1,0,7,0,16,0,127,255,511,511,1023,4095] [18,17,8,16,15,14,13,12,11,10,9]) (
 sq (.reg [
 mF 19 0 2,
 mL 20 19,
 mM 21 1,
 O 22 (.bin .quo (.t 20) (.t 21)),
 mM 23 6,
 O 24 (.agg [(.i .u64 0),(.i .u64 0)] [(0,K0,(.t 22)),(1,K0,(.t 23))]),
 mM 25 7,
 E (.store (K1 2) (.t 4) (.t 24)),
 mM 5 25] [7,25,24,6,23,22,1,21,20,2,19]) (
 .ret)))⟩
def F57:PF:=⟨3,[.c 6 (K1 2),.t 7],
 sq (.reg [
 O 3 (.box (K1 2) (.t 0)),
 O 6 (.alloc (K1 2) (.a [(.i .u64 0),(.i .u64 0)])),
 O 7 (.mov (.c (.b false)))] [7,0]) (
 sq (.reg [
 mF 14 1 3,
 mL 15 14,
 mM 16 1,
 O 17 (.call 0 47 [.t 15,.t 16]),
 mM 13 17,
 mX 18 13 0,
 mX 19 13 1,
 mM 8 18,
 mM 9 19] [19,18,13,17,16,15,14]) (
 sq (.reg [
 mF 21 0 3,
 mL 22 21,
 mM 23 1,
 O 24 (.call 0 47 [.t 22,.t 23]),
 mM 20 24,
 mX 25 20 0,
 mX 26 20 1,
 mM 10 25,
 mM 11 26] [26,25,20,24,1,23,22,3,21]) (
 sq (.reg [
 mM 28 9,
 mM 29 2,
 O 30 (.prim 0 [.t 28,.t 29,(.c (.i .u64 0))]),
 mM 27 30,
 mX 31 27 0,
 mX 32 27 1,
 mM 9 31,
 mM 12 32] [32,31,27,30,2,29,28]) (
 sq (.reg [
 mM 33 8,
 mM 34 12,
 O 35 (.bin .add (.t 33) (.t 34)),
 mM 8 35] [35,12,34,33]) (
 sq (.reg [
 mM 37 11,
 mM 38 8,
 O 39 (.prim 0 [.t 37,.t 38,(.c (.i .u64 0))]),
 mM 36 39,
 mX 40 36 0,
 mX 41 36 1,
 mM 11 40,
 mM 12 41] [41,40,36,39,8,38,37]) (
 sq (.reg [
 mM 42 11,
 mM 43 9,
 O 44 (.agg [(.i .u64 0),(.i .u64 0)] [(0,K0,(.t 42)),(1,K0,(.t 43))]),
 mM 45 10,
 O 46 (.bin .eql (.t 45) (.c (.i .u64 0))),
 mM 47 46,
 OG 48 47 true (.mov (.t 12)),
 OG 49 47 true (.bin .eql (.t 48) (.c (.i .u64 0))),
 O 50 (.pick (.t 47) (.t 49) (.c (.b false))),
 E (.store (K1 2) (.t 6) (.t 44)),
 mM 7 50] [50,49,12,48,47,46,10,45,44,9,43,11,42]) (
 .ret)))))))⟩
def F58:PF:=⟨2,[.c 4 (K1 2),.t 5],
 sq (.reg [
 O 2 (.box (K1 2) (.t 0)),
 O 4 (.alloc (K1 2) (.a [I 0,(.i .u64 0)])),
 mI 5 0] [5,0]) (
 sq (sq (.reg [
 mF 7 0 2,
 mL 8 7,
 O 9 (.bin .gtr (.t 8) (.c (.i .u64 9223372036854775808))),
 mM 10 9,
 OG 11 10 false (.faddr 0 (.t 2)),
 OG 12 10 false (.load K0 (.t 11)),
 OG 13 10 false (.bin .eql (.t 12) (.c (.i .u64 9223372036854775808))),
 OG 14 10 false (.mov (.t 13)),
 OG 15 14 true (.mov (.t 1)),
 OG 16 14 true (.un .not (.t 15)),
 OG 17 14 true (.mov (.t 16)),
 OG 18 17 false (.faddr 1 (.t 2)),
 OG 19 17 false (.load K0 (.t 18)),
 OG 20 17 false (.bin .gtr (.t 19) (.c (.i .u64 0))),
 OG 21 14 true (.pick (.t 17) (.c (.b true)) (.t 20)),
 OG 22 10 false (.pick (.t 14) (.t 21) (.c (.b false))),
 O 23 (.pick (.t 10) (.c (.b true)) (.t 22))] [22,21,20,19,18,17,16,15,14,13,12,11,10,9,8,7]) (
 .cond (.t 23) (sq (.reg [
 O 24 (.agg [I 0,(.i .u64 0)] []),
 E (.store (K1 2) (.t 4) (.t 24)),
 mI 5 6] [24]) (
 .ret))
 (.skip))) (
 sq (.reg [
 mF 25 0 2,
 mL 26 25,
 O 27 (.conv .i64 (.t 26)),
 mF 28 1 2,
 mL 29 28,
 O 30 (.agg [I 0,(.i .u64 0)] [(0,K0,(.t 27)),(1,K0,(.t 29))]),
 O 6 (.alloc (K1 2) (.a [I 0,(.i .u64 0)])),
 E (.store (K1 2) (.t 6) (.t 30))] [30,29,28,27,26,2,25]) (
 sq (sq (.reg [
 mM 31 1] [1]) (
 .cond (.t 31) (.reg [
 O 32 (.load (K1 2) (.t 6)),
 O 33 (.call 0 49 [.t 32]),
 E (.store (K1 2) (.t 6) (.t 33))] [33,32])
 (.skip))) (
 sq (.reg [
 O 34 (.load (K1 2) (.t 6)),
 E (.store (K1 2) (.t 4) (.t 34)),
 mI 5 0] [6,34]) (
 .ret)))))⟩
def qid:PC :=
 sq (sq (.reg [
 mM 67 15,
 O 68 (.bin .geq (.t 67) (.c (.i .u64 4294967296))),
 mM 69 68,
 OG 70 69 false (.mov (.t 15)),
 OG 71 69 false (.mov (.t 10)),
 OG 72 69 false (.bin .mul (.t 70) (.t 71)),
 OG 73 69 false (.mov (.t 16)),
 OG 74 69 false (.bin .mul (.c (.i .u64 4294967296)) (.t 73)),
 OG 75 69 false (.mov (.t 13)),
 OG 76 69 false (.bin .add (.t 74) (.t 75)),
 OG 77 69 false (.bin .gtr (.t 72) (.t 76)),
 O 78 (.pick (.t 69) (.c (.b true)) (.t 77))] [77,76,75,74,73,72,71,70,69,68,67]) (
 .cond (.t 78) (.skip)
 (.exit 0))) (
 .block 1 (
 sq (.reg [
 mM 79 15,
 O 80 (.bin .sub (.t 79) (.c (.i .u64 1))),
 mM 15 80] [80,79]) (
 sq (.reg [
 mM 81 16,
 mM 82 9,
 O 83 (.bin .add (.t 81) (.t 82)),
 mM 16 83] [83,82,81]) (
 sq (.reg [
 mM 84 16,
 O 85 (.bin .geq (.t 84) (.c (.i .u64 4294967296)))] [84]) (
 .cond (.t 85) (.exit 0)
 (.skip))))))
def qhK:PC :=
 sq (sq (.reg [
 mM 102 18,
 O 103 (.bin .geq (.t 102) (.c (.i .u64 4294967296))),
 mM 104 103,
 OG 105 104 false (.mov (.t 18)),
 OG 106 104 false (.mov (.t 10)),
 OG 107 104 false (.bin .mul (.t 105) (.t 106)),
 OG 108 104 false (.mov (.t 16)),
 OG 109 104 false (.bin .mul (.c (.i .u64 4294967296)) (.t 108)),
 OG 110 104 false (.mov (.t 14)),
 OG 111 104 false (.bin .add (.t 109) (.t 110)),
 OG 112 104 false (.bin .gtr (.t 107) (.t 111)),
 O 113 (.pick (.t 104) (.c (.b true)) (.t 112))] [112,111,110,109,108,107,106,105,104,103,102]) (
 .cond (.t 113) (.skip)
 (.exit 2))) (
 .block 3 (
 sq (.reg [
 mM 114 18,
 O 115 (.bin .sub (.t 114) (.c (.i .u64 1))),
 mM 18 115] [115,114]) (
 sq (.reg [
 mM 116 16,
 mM 117 9,
 O 118 (.bin .add (.t 116) (.t 117)),
 mM 16 118] [118,117,116]) (
 sq (.reg [
 mM 119 16,
 O 120 (.bin .geq (.t 119) (.c (.i .u64 4294967296)))] [119]) (
 .cond (.t 120) (.exit 2)
 (.skip))))))
def F68:PF:=⟨3,[.t 6,.t 7],
 sq (.reg [
 O 6 (.mov (.c (.i .u64 0))),
 O 7 (.mov (.c (.i .u64 0)))] [7,6]) (
 sq (sq (.reg [
 mM 19 2,
 O 20 (.bin .eql (.t 19) (.c (.i .u64 0)))] [19]) (
 .cond (.t 20) (.reg [
 O 21 (.load K0 (.g 103)),
 E (.bad)] [21])
 (.skip))) (
 sq (sq (.reg [
 mM 22 2,
 mM 23 0,
 O 24 (.bin .leq (.t 22) (.t 23))] [23,22]) (
 .cond (.t 24) (.reg [
 O 25 (.load K0 (.g 104)),
 E (.bad)] [25])
 (.skip))) (
 sq (sq (.reg [
 mM 26 0,
 O 27 (.bin .eql (.t 26) (.c (.i .u64 0)))] [26]) (
 .cond (.t 27) (sq (.regD [
 mM 28 1,
 mM 29 2,
 O 30 (.bin .quo (.t 28) (.t 29)),
 mM 31 1,
 mM 32 2,
 O 33 (.bin .rem (.t 31) (.t 32)),
 mM 6 30,
 mM 7 33] [0,0,3,0,0,24,7,127] [33,32,31,30,2,29,1,28]) (
 .ret))
 (.skip))) (
 sq (.reg [
 mM 34 2,
 O 35 (.call 0 73 [.t 34]),
 O 36 (.conv .u64 (.t 35)),
 mM 8 36] [36,35,34]) (
 sq (.reg [
 mM 37 2,
 mM 38 8,
 O 39 (.bin .shl (.t 37) (.t 38)),
 mM 2 39] [39,38,37]) (
 sq (.reg [
 mM 40 2,
 O 41 (.bin .shr (.t 40) (.c (.i .u64 32))),
 mM 9 41] [41,40]) (
 sq (.reg [
 mM 42 2,
 O 43 (.bin .and (.t 42) (.c (.i .u64 4294967295))),
 mM 10 43] [43,42]) (
 sq (.reg [
 mM 44 0,
 mM 45 8,
 O 46 (.bin .shl (.t 44) (.t 45)),
 mM 47 1,
 mM 48 8,
 O 49 (.bin .sub (.c (.i .u64 64)) (.t 48)),
 O 50 (.bin .shr (.t 47) (.t 49)),
 O 51 (.bin .or (.t 46) (.t 50)),
 mM 11 51] [51,50,49,48,47,46,45,0,44]) (
 sq (.reg [
 mM 52 1,
 mM 53 8,
 O 54 (.bin .shl (.t 52) (.t 53)),
 mM 12 54] [54,53,1,52]) (
 sq (.reg [
 mM 55 12,
 O 56 (.bin .shr (.t 55) (.c (.i .u64 32))),
 mM 13 56] [56,55]) (
 sq (.reg [
 mM 57 12,
 O 58 (.bin .and (.t 57) (.c (.i .u64 4294967295))),
 mM 14 58] [58,12,57]) (
 sq (.reg [
 mM 59 11,
 mM 60 9,
 O 61 (.bin .quo (.t 59) (.t 60)),
 mM 15 61] [61,60,59]) (
 sq (.reg [
 mM 62 11,
 mM 63 15,
 mM 64 9,
 O 65 (.bin .mul (.t 63) (.t 64)),
 O 66 (.bin .sub (.t 62) (.t 65)),
 mM 16 66] [66,65,64,63,62]) (
 sq (.block 0 (
 .loop [2,8,9,10,11,13,14,15,16] qid)) (
 sq (.reg [
 mM 86 11,
 O 87 (.bin .mul (.t 86) (.c (.i .u64 4294967296))),
 mM 88 13,
 O 89 (.bin .add (.t 87) (.t 88)),
 mM 90 15,
 mM 91 2,
 O 92 (.bin .mul (.t 90) (.t 91)),
 O 93 (.bin .sub (.t 89) (.t 92)),
 mM 17 93] [93,92,91,90,89,13,88,87,11,86]) (
 sq (.reg [
 mM 94 17,
 mM 95 9,
 O 96 (.bin .quo (.t 94) (.t 95)),
 mM 18 96] [96,95,94]) (
 sq (.reg [
 mM 97 17,
 mM 98 18,
 mM 99 9,
 O 100 (.bin .mul (.t 98) (.t 99)),
 O 101 (.bin .sub (.t 97) (.t 100)),
 mM 16 101] [101,100,99,98,97]) (
 sq (.block 2 (
 .loop [2,8,9,10,14,15,16,17,18] qhK)) (
 sq (.reg [
 mM 121 15,
 O 122 (.bin .mul (.t 121) (.c (.i .u64 4294967296))),
 mM 123 18,
 O 124 (.bin .add (.t 122) (.t 123)),
 mM 125 17,
 O 126 (.bin .mul (.t 125) (.c (.i .u64 4294967296))),
 mM 127 14,
 O 128 (.bin .add (.t 126) (.t 127)),
 mM 129 18,
 mM 130 2,
 O 131 (.bin .mul (.t 129) (.t 130)),
 O 132 (.bin .sub (.t 128) (.t 131)),
 mM 133 8,
 O 134 (.bin .shr (.t 132) (.t 133)),
 mM 6 124,
 mM 7 134] [134,8,133,132,131,2,130,129,128,14,127,126,17,125,124,18,123,122,15,121]) (
 .ret))))))))))))))))))))⟩
def F73:PF:=⟨1,[.t 2],
 sq (.reg [
 mI 2 0] [2]) (
 sq (.reg [
 mM 3 0,
 O 4 (.call 0 74 [.t 3]),
 O 5 (.bin .sub (.c (I 64)) (.t 4)),
 mM 2 5] [5,4,0,3]) (
 .ret))⟩
def F74:PF:=⟨1,[.t 2],
 sq (.reg [
 mI 2 0] []) (
 sq (sq (.reg [
 mM 3 0,
 O 4 (.bin .geq (.t 3) (.c (.i .u64 4294967296)))] [3]) (
 .cond (.t 4) (sq (.reg [
 mM 5 0,
 O 6 (.bin .shr (.t 5) (.c (.i .u64 32))),
 mM 0 6] [6,5]) (
 .reg [
 mI 2 32] []))
 (.skip))) (
 sq (sq (.reg [
 mM 7 0,
 O 8 (.bin .geq (.t 7) (.c (.i .u64 65536)))] [7]) (
 .cond (.t 8) (sq (.reg [
 mM 9 0,
 O 10 (.bin .shr (.t 9) (.c (.i .u64 16))),
 mM 0 10] [10,9]) (
 .reg [
 mM 11 2,
 O 12 (.bin .add (.t 11) (.c (I 16))),
 mM 2 12] [12,11]))
 (.skip))) (
 sq (sq (.reg [
 mM 13 0,
 O 14 (.bin .geq (.t 13) (.c (.i .u64 256)))] [13]) (
 .cond (.t 14) (sq (.reg [
 mM 15 0,
 O 16 (.bin .shr (.t 15) (.c (.i .u64 8))),
 mM 0 16] [16,15]) (
 .reg [
 mM 17 2,
 O 18 (.bin .add (.t 17) (.c (I 8))),
 mM 2 18] [18,17]))
 (.skip))) (
 sq (.reg [
 mM 19 2,
 mM 20 0,
 O 21 (.conv .u8 (.t 20)),
 O 22 (.idxS (.c (.s [0,1,2,2,3,3,3,3,4,4,4,4,4,4,4,4,5,5,5,5,5,5,5,5,5,5,5,5,5,5,5,5,6,6,6,6,6,6,6,6,6,6,6,6,6,6,6,6,6,6,6,6,6,6,6,6,6,6,6,6,6,6,6,6,7,7,7,7,7,7,7,7,7,7,7,7,7,7,7,7,7,7,7,7,7,7,7,7,7,7,7,7,7,7,7,7,7,7,7,7,7,7,7,7,7,7,7,7,7,7,7,7,7,7,7,7,7,7,7,7,7,7,7,7,7,7,7,7,8,8,8,8,8,8,8,8,8,8,8,8,8,8,8,8,8,8,8,8,8,8,8,8,8,8,8,8,8,8,8,8,8,8,8,8,8,8,8,8,8,8,8,8,8,8,8,8,8,8,8,8,8,8,8,8,8,8,8,8,8,8,8,8,8,8,8,8,8,8,8,8,8,8,8,8,8,8,8,8,8,8,8,8,8,8,8,8,8,8,8,8,8,8,8,8,8,8,8,8,8,8,8,8,8,8,8,8,8,8,8,8,8,8,8,8,8,8,8,8,8,8,8,8,8,8,8,8])) (.t 21)),
 O 23 (.conv .i64 (.t 22)),
 O 24 (.bin .add (.t 19) (.t 23)),
 mM 2 24] [24,23,22,21,0,20,19]) (
 .ret)))))⟩
def qkm:PF:=⟨2,[.t 4],
 sq (.reg [
 O 4 (.mov (.c (.b false)))] [4]) (
 sq (.reg [
 mM 5 0,
 mM 6 1,
 O 7 (.call 0 291 [.t 5,.t 6]),
 mM 4 7] [7,1,6,0,5]) (
 .ret))⟩
def qiE:PF:=⟨2,[.t 4],
 sq (.reg [
 O 4 (.mov (.c (.b false)))] [4]) (
 sq (.reg [
 mM 5 0,
 O 6 (.len true (.t 5)),
 mM 7 1,
 O 8 (.len true (.t 7)),
 O 9 (.bin .geq (.t 6) (.t 8)),
 mM 10 9,
 OG 11 10 true (.mov (.t 0)),
 OG 12 10 true (.mov (.t 1)),
 OG 13 10 true (.len true (.t 12)),
 OG 14 10 true (.slS (.t 11) none (some (.t 13))),
 OG 15 10 true (.mov (.t 1)),
 OG 16 10 true (.bin .eql (.t 14) (.t 15)),
 O 17 (.pick (.t 10) (.t 16) (.c (.b false))),
 mM 4 17] [17,16,15,14,13,12,11,10,9,8,1,7,6,0,5]) (
 .ret))⟩
def qjp:PC :=
 sq (.reg [
 O 11 (.bin .lss (.t 10) (.t 9))] []) (
 sq (.cond (.t 11) (.skip)
 (.exit 0)) (
 sq (.block 1 (
 sq (.reg [
 O 12 (.iaddr (K1 2) (.t 8) (.t 10)),
 O 13 (.load (K1 2) (.t 12)),
 O 7 (.alloc (K1 2) (.a [.s [],I 0])),
 E (.store (K1 2) (.t 7) (.t 13))] [13,12]) (
 sq (.reg [
 mF 14 0 7,
 mL 15 14,
 mM 16 0,
 O 17 (.bin .eql (.t 15) (.t 16))] [16,15,14]) (
 .cond (.t 17) (sq (sq (.reg [
 mF 18 1 7,
 mL 19 18,
 O 20 (.call 0 416 [.t 19]),
 O 21 (.un .not (.t 20))] [20,19,18]) (
 .cond (.t 21) (sq (.reg [
 mI 4 0,
 mI 5 3] []) (
 .ret))
 (.skip))) (
 sq (.reg [
 mF 22 1 7,
 mL 23 22,
 mM 4 23,
 mI 5 0] [23,7,22]) (
 .ret)))
 (.skip))))) (
 .reg [
 O 24 (.bin .add (.t 10) (.c (I 1))),
 mM 10 24] [24])))
def qkT:PF:=⟨2,[.t 4,.t 5],
 sq (.reg [
 mI 4 0,
 mI 5 0] [5,4]) (
 sq (sq (.reg [
 mM 8 1,
 O 9 (.len false (.t 8)),
 mI 10 0] [1]) (
 .block 0 (
 .loop [0,8,9,10] qjp))) (
 sq (.reg [
 mI 4 0,
 mI 5 4] []) (
 .ret)))⟩
def qj4:PC :=
 sq (.reg [
 O 13 (.bin .lss (.t 12) (.t 11))] []) (
 sq (.cond (.t 13) (.skip)
 (.exit 0)) (
 sq (.block 1 (
 sq (.reg [
 O 14 (.iaddr K0 (.t 10) (.t 12)),
 mL 15 14,
 mM 7 15] [15,14]) (
 sq (.reg [
 mM 16 7,
 O 17 (.call 0 416 [.t 16]),
 O 18 (.un .not (.t 17))] [17,7,16]) (
 .cond (.t 18) (sq (.reg [
 mI 4 0,
 O 5 (.mov (.c (.b false)))] []) (
 .ret))
 (.skip))))) (
 .reg [
 O 19 (.bin .add (.t 12) (.c (I 1))),
 mM 12 19] [19])))
def qjT:PF:=⟨2,[.t 4,.t 5],
 sq (.reg [
 mI 4 0,
 O 5 (.mov (.c (.b false)))] [5,4]) (
 sq (sq (.reg [
 mM 10 1,
 O 11 (.len false (.t 10)),
 mI 12 0] []) (
 .block 0 (
 .loop [0,1,10,11,12] qj4))) (
 sq (.reg [
 mI 8 0,
 O 9 (.mov (.c (.b false)))] []) (
 sq (sq (.reg [
 mM 20 1,
 O 21 (.len false (.t 20))] [20]) (
 .block 2 (
 sq (.reg [
 O 23 (.bin .eql (.t 21) (.c (I 1))),
 mM 22 23] [23]) (
 .cond (.t 22) (.reg [
 mM 25 0,
 mM 26 1,
 O 27 (.iaddr K0 (.t 26) (.c (I 0))),
 mL 28 27,
 O 29 (.call 0 417 [.t 25,.t 28]),
 mM 24 29,
 mX 30 24 0,
 mX 31 24 1,
 mM 8 30,
 mM 9 31] [31,30,24,29,28,27,1,26,0,25])
 (sq (.reg [
 O 33 (.bin .eql (.t 21) (.c (I 2))),
 mM 32 33] [33]) (
 .cond (.t 32) (.regD [
 mM 35 0,
 mM 36 1,
 O 37 (.iaddr K0 (.t 36) (.c (I 0))),
 mL 38 37,
 mM 39 1,
 O 40 (.iaddr K0 (.t 39) (.c (I 1))),
 mL 41 40,
 O 42 (.call 0 418 [.t 35,.t 38,.t 41]),
 mM 34 42,
 mX 43 34 0,
 mX 44 34 1,
 mM 8 43,
 mM 9 44] [0,0,2,6,0,16,48,127,255,511,511,1023,4095] [44,43,34,42,41,40,39,38,37,1,36,0,35])
 (sq (.reg [
 O 46 (.bin .eql (.t 21) (.c (I 3))),
 mM 45 46] [21,46]) (
 .cond (.t 45) (.regD [
 mM 47 1,
 O 48 (.iaddr K0 (.t 47) (.c (I 1))),
 mL 49 48,
 mM 50 0,
 O 51 (.bin .eql (.t 50) (.c (I 19))),
 mM 52 51,
 OG 53 52 true (.mov (.t 1)),
 OG 54 52 true (.iaddr K0 (.t 53) (.c (I 0))),
 OG 55 52 true (.load K0 (.t 54)),
 OG 56 52 true (.bin .eql (.t 55) (.c (I 5))),
 O 57 (.pick (.t 52) (.t 56) (.c (.b false))),
 mM 58 57,
 OG 59 58 true (.mov (.t 1)),
 OG 60 58 true (.iaddr K0 (.t 59) (.c (I 1))),
 OG 61 58 true (.load K0 (.t 60)),
 OG 62 58 true (.mov (.t 1)),
 OG 63 58 true (.iaddr K0 (.t 62) (.c (I 2))),
 OG 64 58 true (.load K0 (.t 63)),
 OG 65 58 true (.bin .eql (.t 61) (.t 64)),
 O 66 (.pick (.t 58) (.t 65) (.c (.b false))),
 mM 8 49,
 mM 9 66] [0,1,3,0,8,24,56,120,248,504,1016,2040,4088,8184,16376,4088,36856,102392,262136,524280,4095,2097151] [66,65,64,63,62,61,60,59,58,57,56,55,54,53,52,51,0,50,49,48,1,47])
 (.skip))))))))) (
 sq (sq (.reg [
 mM 67 9,
 O 68 (.un .not (.t 67))] [9,67]) (
 .cond (.t 68) (sq (.reg [
 mI 4 0,
 O 5 (.mov (.c (.b false)))] []) (
 .ret))
 (.skip))) (
 sq (.reg [
 mM 69 8,
 mM 4 69,
 O 5 (.mov (.c (.b true)))] [8,69]) (
 .ret))))))⟩
def qjM:PF:=⟨2,[.t 3],
 sq (.reg [
 O 2 (.box (K1 4) (.t 0)),
 O 3 (.mov (.c (.b false)))] [3,0]) (
 sq (.reg [
 O 4 (.load (K1 4) (.t 2)),
 mL 5 1,
 O 6 (.call 2 407 [.t 4,.t 5]),
 O 7 (.un .not (.t 6)),
 mM 3 7] [7,6,1,5,2,4]) (
 .ret))⟩
def qf5:PF:=⟨2,[.t 4,.t 5],
 sq (.reg [
 mI 4 0,
 O 5 (.mov (.c (.b false)))] [5,4]) (
 sq (sq (.reg [
 mM 6 0] [0]) (
 .block 0 (
 sq (.reg [
 O 8 (.bin .eql (.t 6) (.c (I 16))),
 mM 7 8] [8]) (
 .cond (.t 7) (sq (.reg [
 mM 9 1,
 O 10 (.bin .eql (.t 9) (.c (I 5))),
 mI 4 5,
 mM 5 10] [10,1,9]) (
 .ret))
 (sq (.reg [
 O 12 (.bin .eql (.t 6) (.c (I 9))),
 mM 11 12] [6,12]) (
 .cond (.t 11) (sq (.reg [
 mM 13 1,
 mM 14 1,
 O 15 (.bin .eql (.t 14) (.c (I 1))),
 mM 16 15,
 OG 17 16 false (.mov (.t 1)),
 OG 18 16 false (.bin .eql (.t 17) (.c (I 2))),
 O 19 (.pick (.t 16) (.c (.b true)) (.t 18)),
 mM 20 19,
 OG 21 20 false (.mov (.t 1)),
 OG 22 20 false (.bin .eql (.t 21) (.c (I 3))),
 O 23 (.pick (.t 20) (.c (.b true)) (.t 22)),
 mM 4 13,
 mM 5 23] [23,22,21,20,19,18,17,16,15,14,1,13]) (
 .ret))
 (.skip))))))) (
 sq (.reg [
 mI 4 0,
 O 5 (.mov (.c (.b false)))] []) (
 .ret)))⟩
def qcF:PF:=⟨3,[.t 6,.t 7],
 sq (.reg [
 mI 6 0,
 O 7 (.mov (.c (.b false)))] [7,6]) (
 sq (sq (.reg [
 mM 9 0] []) (
 .block 0 (
 sq (sq (.reg [
 O 11 (.bin .eql (.t 9) (.c (I 10))),
 mM 10 11] [11]) (
 .cond (.t 10) (.skip)
 (.reg [
 O 12 (.bin .eql (.t 9) (.c (I 11))),
 mM 10 12] [12]))) (
 .cond (.t 10) (sq (.reg [
 mM 13 1,
 mM 14 2,
 O 15 (.bin .eql (.t 13) (.t 14)),
 mI 6 5,
 mM 7 15] [15,2,14,1,13]) (
 .ret))
 (sq (sq (.reg [
 O 17 (.bin .eql (.t 9) (.c (I 12))),
 mM 16 17] [17]) (
 .cond (.t 16) (.skip)
 (.reg [
 O 18 (.bin .eql (.t 9) (.c (I 13))),
 mM 16 18] [18]))) (
 .cond (.t 16) (sq (.reg [
 mM 19 1,
 mM 20 2,
 O 21 (.bin .eql (.t 19) (.t 20)),
 mM 22 21,
 OG 23 22 true (.mov (.t 1)),
 OG 24 22 true (.bin .neq (.t 23) (.c (I 5))),
 O 25 (.pick (.t 22) (.t 24) (.c (.b false))),
 mI 6 5,
 mM 7 25] [25,24,23,22,21,2,20,1,19]) (
 .ret))
 (sq (sq (.reg [
 O 27 (.bin .eql (.t 9) (.c (I 14))),
 mM 26 27] [27]) (
 .cond (.t 26) (.skip)
 (.reg [
 O 28 (.bin .eql (.t 9) (.c (I 15))),
 mM 26 28] [28]))) (
 .cond (.t 26) (sq (.reg [
 mM 29 1,
 mM 30 2,
 O 31 (.bin .eql (.t 29) (.t 30)),
 mM 32 31,
 OG 33 32 true (.mov (.t 1)),
 OG 34 32 true (.bin .eql (.t 33) (.c (I 5))),
 O 35 (.pick (.t 32) (.t 34) (.c (.b false))),
 mI 6 5,
 mM 7 35] [35,34,33,32,31,2,30,1,29]) (
 .ret))
 (sq (sq (.reg [
 O 37 (.bin .eql (.t 9) (.c (I 17))),
 mM 36 37] [37]) (
 .cond (.t 36) (.skip)
 (.reg [
 O 38 (.bin .eql (.t 9) (.c (I 18))),
 mM 36 38] [9,38]))) (
 .cond (.t 36) (sq (.reg [
 mM 39 1,
 mM 40 1,
 mM 41 2,
 O 42 (.bin .eql (.t 40) (.t 41)),
 mM 43 42,
 OG 44 43 true (.mov (.t 1)),
 OG 45 43 true (.bin .neq (.t 44) (.c (I 5))),
 O 46 (.pick (.t 43) (.t 45) (.c (.b false))),
 mM 6 39,
 mM 7 46] [46,45,44,43,42,2,41,40,1,39]) (
 .ret))
 (.skip))))))))))) (
 sq (.reg [
 O 47 (.call 2 421 []),
 mM 48 0,
 mM 49 1,
 mM 50 2,
 O 51 (.agg [I 0,I 0,I 0] [(0,K0,(.t 48)),(1,K0,(.t 49)),(2,K0,(.t 50))]),
 O 52 (.mget (.st [1,1,1]) (I 0) false (.t 47) (.t 51)),
 mM 8 52] [52,51,2,50,1,49,0,48,47]) (
 sq (.reg [
 mM 53 8,
 mM 54 8,
 O 55 (.bin .neq (.t 54) (.c (I 0))),
 mM 6 53,
 mM 7 55] [55,54,8,53]) (
 .ret))))⟩
def qi5:PF:=⟨1,[.t 2],
 sq (.reg [
 O 2 (.mov (.c (.b false)))] [2]) (
 sq (.reg [
 mM 3 0,
 O 4 (.bin .neq (.t 3) (.c (.i .i32 10))),
 mM 2 4] [4,0,3]) (
 .ret))⟩
def qjc:PF:=⟨1,[.t 2],
 sq (.reg [
 O 2 (.mov (.c (.b false)))] [2]) (
 sq (.reg [
 mM 3 0,
 O 4 (.bin .geq (.t 3) (.c (.i .i32 48))),
 mM 5 4,
 OG 6 5 true (.mov (.t 0)),
 OG 7 5 true (.bin .leq (.t 6) (.c (.i .i32 57))),
 O 8 (.pick (.t 5) (.t 7) (.c (.b false))),
 mM 2 8] [8,7,6,5,4,0,3]) (
 .ret))⟩
def qfx:PF:=⟨1,[.c 2 (K1 3),.t 3],
 sq (.reg [
 O 2 (.alloc (K1 3) (.a [I 0,I 0,.s []])),
 mI 3 0] [3]) (
 sq (sq (.reg [
 mM 8 0,
 O 9 (.call 0 439 [.t 8])] [8]) (
 .cond (.t 9) (sq (sq (.reg [
 mM 11 0,
 O 12 (.call 0 440 [.t 11,(.c (I 10)),(.c (I 64))]),
 mM 10 12,
 mX 13 10 0,
 mX 14 10 1,
 mM 4 13,
 mM 5 14] [4,14,13,10,12,11]) (
 sq (.reg [
 mM 15 5,
 O 16 (.isnil true 0 (.t 15))] [5,15]) (
 .cond (.t 16) (sq (.reg [
 O 17 (.agg [I 0,I 0,.s []] []),
 E (.store (K1 3) (.t 2) (.t 17)),
 mI 3 6] [17]) (
 .ret))
 (.skip)))) (
 sq (.reg [
 mM 18 0,
 O 19 (.agg [I 0,I 0,.s []] [(0,K0,(.c (I 2))),(2,K0,(.t 18))]),
 E (.store (K1 3) (.t 2) (.t 19)),
 mI 3 0] [19,0,18]) (
 .ret)))
 (.skip))) (
 sq (sq (.reg [
 mM 21 0,
 O 22 (.call 0 441 [.t 21]),
 mM 20 22,
 mX 23 20 0,
 mX 24 20 1,
 mM 6 23,
 mM 7 24] [6,24,23,20,22,21]) (
 sq (.reg [
 mM 25 7] [7]) (
 .block 0 (
 sq (.reg [
 O 27 (.bin .eql (.t 25) (.c (I 0))),
 mM 26 27] [27]) (
 .cond (.t 26) (sq (.reg [
 mM 28 0,
 O 29 (.agg [I 0,I 0,.s []] [(0,K0,(.c (I 3))),(2,K0,(.t 28))]),
 E (.store (K1 3) (.t 2) (.t 29)),
 mI 3 0] [29,0,28]) (
 .ret))
 (sq (.reg [
 O 31 (.bin .eql (.t 25) (.c (I 1))),
 mM 30 31] [25,31]) (
 .cond (.t 30) (sq (.reg [
 O 32 (.agg [I 0,I 0,.s []] []),
 E (.store (K1 3) (.t 2) (.t 32)),
 mI 3 6] [32]) (
 .ret))
 (.skip)))))))) (
 sq (.reg [
 O 33 (.agg [I 0,I 0,.s []] []),
 E (.store (K1 3) (.t 2) (.t 33)),
 mI 3 2] [33]) (
 .ret))))⟩
def qhs:PF:=⟨1,[.t 2],
 sq (.reg [
 O 2 (.mov (.c (.b false)))] [2]) (
 sq (.reg [
 mM 3 0,
 O 4 (.call 0 430 [.t 3]),
 mM 5 4,
 OG 6 5 false (.mov (.t 0)),
 OG 7 5 false (.bin .eql (.t 6) (.c (.i .i32 46))),
 O 8 (.pick (.t 5) (.c (.b true)) (.t 7)),
 mM 9 8,
 OG 10 9 false (.mov (.t 0)),
 OG 11 9 false (.bin .eql (.t 10) (.c (.i .i32 37))),
 O 12 (.pick (.t 9) (.c (.b true)) (.t 11)),
 mM 2 12] [12,11,10,9,8,7,6,5,4,0,3]) (
 .ret))⟩
def qEm:PC :=
 sq (sq (.reg [
 mM 57 8,
 mM 58 9,
 O 59 (.bin .lss (.t 57) (.t 58))] [58,57]) (
 .cond (.t 59) (.skip)
 (.exit 1))) (
 .block 2 (
 sq (sq (.reg [
 mM 60 0,
 mM 61 8,
 O 62 (.idxS (.t 60) (.t 61)),
 mM 63 6,
 O 64 (.bin .neq (.t 62) (.t 63))] [63,62,61,60]) (
 .cond (.t 64) (sq (.reg [
 mM 65 0,
 mM 66 8,
 O 67 (.bin .add (.t 66) (.c (I 1))),
 mM 68 9,
 O 69 (.slS (.t 65) (some (.t 67)) (some (.t 68))),
 mM 70 6,
 O 71 (.call 0 443 [.t 69,.t 70]),
 mM 11 71] [71,70,69,68,67,66,65]) (
 sq (sq (.reg [
 mM 72 11,
 O 73 (.bin .lss (.t 72) (.c (I 0)))] [72]) (
 .cond (.t 73) (sq (.reg [
 O 4 (.mov (.c (I (-1))))] []) (
 .ret))
 (.skip))) (
 .reg [
 mM 74 8,
 mM 75 11,
 O 76 (.bin .add (.t 75) (.c (I 1))),
 O 77 (.bin .add (.t 74) (.t 76)),
 mM 8 77] [77,76,11,75,74])))
 (.skip))) (
 sq (sq (.reg [
 mM 78 0,
 mM 79 8,
 O 80 (.bin .add (.t 79) (.c (I 1))),
 O 81 (.idxS (.t 78) (.t 80)),
 mM 82 7,
 O 83 (.bin .eql (.t 81) (.t 82)),
 mM 84 83,
 OG 85 84 true (.mov (.t 0)),
 OG 86 84 true (.mov (.t 8)),
 OG 87 84 true (.mov (.t 8)),
 OG 88 84 true (.mov (.t 5)),
 OG 89 84 true (.bin .add (.t 87) (.t 88)),
 OG 90 84 true (.slS (.t 85) (some (.t 86)) (some (.t 89))),
 OG 91 84 true (.mov (.t 1)),
 OG 92 84 true (.bin .eql (.t 90) (.t 91)),
 O 93 (.pick (.t 84) (.t 92) (.c (.b false)))] [92,91,90,89,88,87,86,85,84,83,82,81,80,79,78]) (
 .cond (.t 93) (sq (.reg [
 mM 94 8,
 mM 4 94] [8,94]) (
 .ret))
 (.skip))) (
 sq (.reg [
 mM 95 8,
 O 96 (.bin .add (.t 95) (.c (I 1))),
 mM 8 96] [96,95]) (
 sq (.reg [
 mM 97 10,
 O 98 (.bin .add (.t 97) (.c (I 1))),
 mM 10 98] [98,97]) (
 sq (.reg [
 mM 99 5,
 O 100 (.load K0 (.g 101)),
 O 101 (.bin .leq (.t 99) (.t 100)),
 mM 102 101,
 OG 103 102 true (.mov (.t 10)),
 OG 104 102 true (.mov (.t 8)),
 OG 105 102 true (.call 0 444 [.t 104]),
 OG 106 102 true (.bin .gtr (.t 103) (.t 105)),
 O 107 (.pick (.t 102) (.t 106) (.c (.b false)))] [106,105,104,103,102,101,100,99]) (
 .cond (.t 107) (sq (.reg [
 mM 108 0,
 mM 109 8,
 O 110 (.slS (.t 108) (some (.t 109)) none),
 mM 111 1,
 O 112 (.bad),
 mM 12 112] [112,1,111,110,109,0,108]) (
 sq (sq (.reg [
 mM 113 12,
 O 114 (.bin .geq (.t 113) (.c (I 0)))] [113]) (
 .cond (.t 114) (sq (.reg [
 mM 115 12,
 mM 116 8,
 O 117 (.bin .add (.t 115) (.t 116)),
 mM 4 117] [117,8,116,12,115]) (
 .ret))
 (.skip))) (
 sq (.reg [
 O 4 (.mov (.c (I (-1))))] []) (
 .ret))))
 (sq (.reg [
 mM 118 5,
 O 119 (.load K0 (.g 101)),
 O 120 (.bin .gtr (.t 118) (.t 119)),
 mM 121 120,
 OG 122 121 true (.mov (.t 10)),
 OG 123 121 true (.mov (.t 8)),
 OG 124 121 true (.bin .shr (.t 123) (.c (.i .u64 4))),
 OG 125 121 true (.bin .add (.c (I 4)) (.t 124)),
 OG 126 121 true (.bin .geq (.t 122) (.t 125)),
 O 127 (.pick (.t 121) (.t 126) (.c (.b false))),
 mM 128 127,
 OG 129 128 true (.mov (.t 8)),
 OG 130 128 true (.mov (.t 9)),
 OG 131 128 true (.bin .lss (.t 129) (.t 130)),
 O 132 (.pick (.t 128) (.t 131) (.c (.b false)))] [131,130,129,128,127,126,125,124,123,122,121,120,119,118]) (
 .cond (.t 132) (sq (.reg [
 mM 133 0,
 mM 134 8,
 O 135 (.slS (.t 133) (some (.t 134)) none),
 mM 136 1,
 O 137 (.call 0 445 [.t 135,.t 136]),
 mM 13 137] [137,1,136,135,134,0,133]) (
 sq (sq (.reg [
 mM 138 13,
 O 139 (.bin .lss (.t 138) (.c (I 0)))] [138]) (
 .cond (.t 139) (sq (.reg [
 O 4 (.mov (.c (I (-1))))] []) (
 .ret))
 (.skip))) (
 sq (.reg [
 mM 140 8,
 mM 141 13,
 O 142 (.bin .add (.t 140) (.t 141)),
 mM 4 142] [142,13,141,8,140]) (
 .ret))))
 (.skip))))))))))
def qhS:PF:=⟨2,[.t 4],
 sq (.reg [
 mI 4 0] [4]) (
 sq (.reg [
 mM 14 1,
 O 15 (.len true (.t 14)),
 mM 5 15] [15,14]) (
 sq (.block 0 (
 sq (.reg [
 mM 17 5,
 O 18 (.bin .eql (.t 17) (.c (I 0))),
 mM 19 18,
 OG 20 19 false (.mov (.t 1)),
 OG 21 19 false (.mov (.t 0)),
 OG 22 19 false (.bin .eql (.t 20) (.t 21)),
 O 23 (.pick (.t 19) (.c (.b true)) (.t 22)),
 mM 16 23] [23,22,21,20,19,18,17]) (
 .cond (.t 16) (sq (.reg [
 mI 4 0] []) (
 .ret))
 (sq (.reg [
 mM 25 5,
 O 26 (.bin .eql (.t 25) (.c (I 1))),
 mM 24 26] [26,25]) (
 .cond (.t 24) (sq (.reg [
 mM 27 0,
 mM 28 1,
 O 29 (.idxS (.t 28) (.c (I 0))),
 O 30 (.call 0 443 [.t 27,.t 29]),
 mM 4 30] [30,29,1,28,0,27]) (
 .ret))
 (sq (.reg [
 mM 32 5,
 mM 33 0,
 O 34 (.len true (.t 33)),
 O 35 (.bin .geq (.t 32) (.t 34)),
 mM 31 35] [35,34,33,32]) (
 .cond (.t 31) (sq (.reg [
 O 4 (.mov (.c (I (-1))))] []) (
 .ret))
 (sq (.reg [
 mM 37 5,
 O 38 (.load K0 (.g 101)),
 O 39 (.bin .leq (.t 37) (.t 38)),
 mM 40 39,
 OG 41 40 true (.mov (.t 0)),
 OG 42 40 true (.len true (.t 41)),
 OG 43 40 true (.bin .leq (.t 42) (.c (I 64))),
 O 44 (.pick (.t 40) (.t 43) (.c (.b false))),
 mM 36 44] [44,43,42,41,40,39,38,37]) (
 .cond (.t 36) (sq (.reg [
 mM 45 0,
 mM 46 1,
 O 47 (.bad),
 mM 4 47] [47,1,46,0,45]) (
 .ret))
 (.skip)))))))))) (
 sq (.reg [
 mM 48 1,
 O 49 (.idxS (.t 48) (.c (I 0))),
 mM 6 49] [49,48]) (
 sq (.reg [
 mM 50 1,
 O 51 (.idxS (.t 50) (.c (I 1))),
 mM 7 51] [51,50]) (
 sq (.reg [
 mI 8 0] []) (
 sq (.reg [
 mM 52 0,
 O 53 (.len true (.t 52)),
 mM 54 5,
 O 55 (.bin .sub (.t 53) (.t 54)),
 O 56 (.bin .add (.t 55) (.c (I 1))),
 mM 9 56] [56,55,54,53,52]) (
 sq (.reg [
 mI 10 0] []) (
 sq (.block 1 (
 .loop [0,1,5,6,7,8,9,10] qEm)) (
 sq (.reg [
 O 4 (.mov (.c (I (-1))))] []) (
 .ret))))))))))⟩
def qgQ:PF:=⟨1,[.t 2],
 sq (.reg [
 O 2 (.mov (.c (.b false)))] [2]) (
 sq (.reg [
 mM 3 0,
 O 4 (.bin .neq (.t 3) (.c (.s []))),
 mM 5 4,
 OG 6 5 true (.mov (.t 0)),
 OG 7 5 true (.call 2 425 [.t 6,.f 432]),
 OG 8 5 true (.mov (.t 0)),
 OG 9 5 true (.bin .eql (.t 7) (.t 8)),
 O 10 (.pick (.t 5) (.t 9) (.c (.b false))),
 mM 11 10,
 OG 12 11 true (.mov (.t 0)),
 OG 13 11 true (.len true (.t 12)),
 OG 14 11 true (.bin .eql (.t 13) (.c (I 1))),
 OG 15 11 true (.mov (.t 14)),
 OG 16 15 false (.mov (.t 0)),
 OG 17 15 false (.idxS (.t 16) (.c (I 0))),
 OG 18 15 false (.bin .neq (.t 17) (.c (.i .u8 48))),
 OG 19 11 true (.pick (.t 15) (.c (.b true)) (.t 18)),
 O 20 (.pick (.t 11) (.t 19) (.c (.b false))),
 mM 2 20] [20,19,18,17,16,15,14,13,12,11,10,9,8,7,6,5,4,0,3]) (
 .ret))⟩
def qmF:PC :=
 sq (sq (.reg [
 mM 58 7,
 O 59 (.len true (.t 58)),
 O 60 (.bin .lss (.t 59) (.c (I 4)))] [59,58]) (
 .cond (.t 60) (.skip)
 (.exit 0))) (
 .block 1 (
 .reg [
 mM 61 7,
 O 62 (.bin .add (.t 61) (.c (.s [48]))),
 mM 7 62] [62,61]))
def qcM:PF:=⟨1,[.t 2,.t 3],
 sq (.reg [
 mI 2 0,
 mI 3 0] [3,2]) (
 sq (.reg [
 mM 12 0,
 O 13 (.call 0 449 [.t 12,(.c (.s [37]))]),
 mM 11 13,
 mX 14 11 0,
 mX 15 11 1,
 mM 4 14,
 mM 5 15] [15,14,11,13,0,12]) (
 sq (.reg [
 mM 17 4,
 O 18 (.call 0 450 [.t 17,(.c (.s [46]))]),
 mM 16 18,
 mX 19 16 0,
 mX 20 16 1,
 mX 21 16 2,
 mM 6 19,
 mM 7 20,
 mM 8 21] [21,20,19,16,18,4,17]) (
 sq (sq (.reg [
 mM 22 5,
 O 23 (.un .not (.t 22)),
 mM 24 23,
 OG 25 24 false (.mov (.t 6)),
 OG 26 24 false (.call 0 439 [.t 25]),
 OG 27 24 false (.un .not (.t 26)),
 O 28 (.pick (.t 24) (.c (.b true)) (.t 27)),
 mM 29 28,
 OG 30 29 false (.mov (.t 8)),
 OG 31 29 false (.mov (.t 30)),
 OG 32 31 true (.mov (.t 7)),
 OG 33 31 true (.bin .eql (.t 32) (.c (.s []))),
 OG 34 31 true (.mov (.t 33)),
 OG 35 34 false (.mov (.t 7)),
 OG 36 34 false (.len true (.t 35)),
 OG 37 34 false (.bin .gtr (.t 36) (.c (I 4))),
 OG 38 31 true (.pick (.t 34) (.c (.b true)) (.t 37)),
 OG 39 31 true (.mov (.t 38)),
 OG 40 39 false (.mov (.t 7)),
 OG 41 39 false (.call 2 425 [.t 40,.f 432]),
 OG 42 39 false (.mov (.t 7)),
 OG 43 39 false (.bin .neq (.t 41) (.t 42)),
 OG 44 31 true (.pick (.t 39) (.c (.b true)) (.t 43)),
 OG 45 31 true (.mov (.t 44)),
 OG 46 45 false (.mov (.t 7)),
 OG 47 45 false (.mov (.t 7)),
 OG 48 45 false (.len true (.t 47)),
 OG 49 45 false (.bin .sub (.t 48) (.c (I 1))),
 OG 50 45 false (.idxS (.t 46) (.t 49)),
 OG 51 45 false (.bin .eql (.t 50) (.c (.i .u8 48))),
 OG 52 31 true (.pick (.t 45) (.c (.b true)) (.t 51)),
 OG 53 29 false (.pick (.t 31) (.t 52) (.c (.b false))),
 O 54 (.pick (.t 29) (.c (.b true)) (.t 53))] [53,52,51,50,49,48,47,46,45,44,43,42,41,40,39,38,37,36,35,34,33,32,31,8,30,29,28,27,26,25,24,23,5,22]) (
 .cond (.t 54) (sq (.reg [
 mI 2 0,
 mI 3 2] []) (
 .ret))
 (.skip))) (
 sq (sq (.reg [
 mM 55 6,
 O 56 (.len true (.t 55)),
 O 57 (.bin .gtr (.t 56) (.c (I 3)))] [56,55]) (
 .cond (.t 57) (sq (.reg [
 mI 2 0,
 mI 3 1] []) (
 .ret))
 (.skip))) (
 sq (.block 0 (
 .loop [6,7] qmF)) (
 sq (.reg [
 mM 64 6,
 mM 65 7,
 O 66 (.bin .add (.t 64) (.t 65)),
 O 67 (.call 0 451 [.t 66]),
 mM 63 67,
 mX 68 63 0,
 mX 69 63 1,
 mM 9 68,
 mM 10 69] [10,69,68,63,67,66,7,65,6,64]) (
 sq (sq (.reg [
 mM 70 9,
 O 71 (.bin .gtr (.t 70) (.c (I 1000000)))] [70]) (
 .cond (.t 71) (sq (.reg [
 mI 2 0,
 mI 3 1] []) (
 .ret))
 (.skip))) (
 sq (.reg [
 mM 72 9,
 mM 2 72,
 mI 3 0] [9,72]) (
 .ret)))))))))⟩
def qkl:PF:=⟨2,[.t 4],
 sq (.reg [
 mI 4 0] [4]) (
 sq (.reg [
 mM 5 0,
 mM 6 1,
 O 7 (.prim 2 [.t 5,.t 6]),
 mM 4 7] [7,1,6,0,5]) (
 .ret))⟩
def qjJ:PF:=⟨2,[.t 4,.t 5],
 sq (.reg [
 O 4 (.mov (.c (.s []))),
 O 5 (.mov (.c (.b false)))] [5,4]) (
 sq (.reg [
 mM 6 0,
 mM 7 1,
 O 8 (.call 0 460 [.t 6,.t 7]),
 mX 9 8 0,
 mX 10 8 1,
 mM 4 9,
 mM 5 10] [10,9,8,1,7,0,6]) (
 .ret))⟩
def qkd:PF:=⟨2,[.t 4,.t 5,.t 6],
 sq (.reg [
 O 4 (.mov (.c (.s []))),
 O 5 (.mov (.c (.s []))),
 O 6 (.mov (.c (.b false)))] [6,5,4]) (
 sq (.reg [
 mM 7 0,
 mM 8 1,
 O 9 (.call 0 461 [.t 7,.t 8]),
 mX 10 9 0,
 mX 11 9 1,
 mX 12 9 2,
 mM 4 10,
 mM 5 11,
 mM 6 12] [12,11,10,9,1,8,0,7]) (
 .ret))⟩
def qjl:PF:=⟨2,[.t 4,.t 5],
 sq (.reg [
 O 4 (.mov (.c (.s []))),
 O 5 (.mov (.c (.b false)))] [5,4]) (
 sq (sq (.reg [
 mM 6 0,
 mM 7 1,
 O 8 (.call 0 468 [.t 6,.t 7]),
 O 9 (.un .not (.t 8))] [8,7,6]) (
 .cond (.t 9) (sq (.reg [
 mM 10 0,
 mM 4 10,
 O 5 (.mov (.c (.b false)))] [0,10]) (
 .ret))
 (.skip))) (
 sq (.reg [
 mM 11 0,
 mM 12 0,
 O 13 (.len true (.t 12)),
 mM 14 1,
 O 15 (.len true (.t 14)),
 O 16 (.bin .sub (.t 13) (.t 15)),
 O 17 (.slS (.t 11) none (some (.t 16))),
 mM 4 17,
 O 5 (.mov (.c (.b true)))] [17,16,15,1,14,13,12,0,11]) (
 .ret)))⟩
def qhQ:PF:=⟨2,[.t 4,.t 5,.t 6],
 sq (.reg [
 O 4 (.mov (.c (.s []))),
 O 5 (.mov (.c (.s []))),
 O 6 (.mov (.c (.b false)))] [6,5,4]) (
 sq (sq (.reg [
 mM 8 0,
 mM 9 1,
 O 10 (.call 0 436 [.t 8,.t 9]),
 mM 7 10] [10,9,8]) (
 sq (.reg [
 mM 11 7,
 O 12 (.bin .geq (.t 11) (.c (I 0)))] [11]) (
 .cond (.t 12) (sq (.regD [
 mM 13 0,
 mM 14 7,
 O 15 (.slS (.t 13) none (some (.t 14))),
 mM 16 0,
 mM 17 7,
 mM 18 1,
 O 19 (.len true (.t 18)),
 O 20 (.bin .add (.t 17) (.t 19)),
 O 21 (.slS (.t 16) (some (.t 20)) none),
 mM 4 15,
 mM 5 21,
 O 6 (.mov (.c (.b true)))] [0,0,3,0,0,0,32,112,248,7,1023,2047] [21,20,19,1,18,17,16,15,7,14,0,13]) (
 .ret))
 (.skip)))) (
 sq (.reg [
 mM 22 0,
 mM 4 22,
 O 5 (.mov (.c (.s []))),
 O 6 (.mov (.c (.b false)))] [0,22]) (
 .ret)))⟩
def qjh:PF:=⟨2,[.t 4],
 sq (.reg [
 O 4 (.mov (.c (.b false)))] [4]) (
 sq (.reg [
 mM 5 0,
 O 6 (.len true (.t 5)),
 mM 7 1,
 O 8 (.len true (.t 7)),
 O 9 (.bin .geq (.t 6) (.t 8)),
 mM 10 9,
 OG 11 10 true (.mov (.t 0)),
 OG 12 10 true (.mov (.t 0)),
 OG 13 10 true (.len true (.t 12)),
 OG 14 10 true (.mov (.t 1)),
 OG 15 10 true (.len true (.t 14)),
 OG 16 10 true (.bin .sub (.t 13) (.t 15)),
 OG 17 10 true (.slS (.t 11) (some (.t 16)) none),
 OG 18 10 true (.mov (.t 1)),
 OG 19 10 true (.bin .eql (.t 17) (.t 18)),
 O 20 (.pick (.t 10) (.t 19) (.c (.b false))),
 mM 4 20] [20,19,18,17,16,15,14,13,12,11,10,9,8,1,7,6,0,5]) (
 .ret))⟩
def qkY:PC :=
 sq (.reg [
 O 19 (.bin .lss (.t 18) (.t 17))] []) (
 sq (.cond (.t 19) (.skip)
 (.exit 0)) (
 sq (.block 1 (
 sq (.reg [
 O 20 (.iaddr (K1 2) (.t 16) (.t 18)),
 O 21 (.load (K1 2) (.t 20)),
 O 8 (.alloc (K1 2) (.a [I 0,I 0])),
 E (.store (K1 2) (.t 8) (.t 21))] [21,20]) (
 .reg [
 mM 22 6,
 mF 23 0 8,
 mL 24 23,
 O 25 (.bsl K0 (I 0) 1 [(0,(.t 24))]),
 O 26 (.app K0 8 (.t 22) (.t 25)),
 mM 6 26] [26,25,24,8,23,22]))) (
 .reg [
 O 27 (.bin .add (.t 18) (.c (I 1))),
 mM 18 27] [27])))
def qk7:PC :=
 sq (.reg [
 O 40 (.bin .lss (.t 39) (.t 38))] []) (
 sq (.cond (.t 40) (.skip)
 (.exit 2)) (
 sq (.block 3 (
 sq (.reg [
 O 41 (.iaddr (K1 2) (.t 37) (.t 39)),
 O 42 (.load (K1 2) (.t 41)),
 O 12 (.alloc (K1 2) (.a [I 0,I 0])),
 E (.store (K1 2) (.t 12) (.t 42))] [42,41]) (
 sq (.reg [
 O 43 (.load (K1 2) (.t 12)),
 O 44 (.call 0 966 [.t 43]),
 O 45 (.un .not (.t 44))] [44,12,43]) (
 .cond (.t 45) (sq (.reg [
 O 46 (.agg [I 0,I 0] []),
 E (.store (K1 2) (.t 4) (.t 46)),
 mI 5 1] [46]) (
 .ret))
 (.skip))))) (
 .reg [
 O 47 (.bin .add (.t 39) (.c (I 1))),
 mM 39 47] [47])))
def qjV:PF:=⟨2,[.c 4 (K1 2),.t 5],
 sq (.reg [
 O 4 (.alloc (K1 2) (.a [I 0,I 0])),
 mI 5 0] [5]) (
 sq (.reg [
 O 6 (.mov (.c (.l K0 [] true)))] []) (
 sq (sq (.reg [
 mM 16 1,
 O 17 (.len false (.t 16)),
 mI 18 0] []) (
 .block 0 (
 .loop [0,1,4,6,16,17,18] qkY))) (
 sq (.reg [
 mM 29 0,
 mM 30 6,
 O 31 (.call 0 411 [.t 29,.t 30]),
 mM 28 31,
 mX 32 28 0,
 mX 33 28 1,
 mM 9 32,
 mM 10 33] [33,32,28,31,6,30,29]) (
 sq (sq (.reg [
 mM 34 10,
 O 35 (.un .not (.t 34))] [10,34]) (
 .cond (.t 35) (sq (.reg [
 O 36 (.agg [I 0,I 0] []),
 E (.store (K1 2) (.t 4) (.t 36)),
 mI 5 3] [36]) (
 .ret))
 (.skip))) (
 sq (sq (.reg [
 mM 37 1,
 O 38 (.len false (.t 37)),
 mI 39 0] []) (
 .block 2 (
 .loop [0,1,4,9,37,38,39] qk7))) (
 sq (.reg [
 mM 48 9,
 O 49 (.agg [I 0,I 0] [(0,K0,(.t 48))]),
 O 13 (.alloc (K1 2) (.a [I 0,I 0])),
 E (.store (K1 2) (.t 13) (.t 49))] [49,9,48]) (
 sq (sq (.reg [
 mM 50 0,
 O 51 (.bin .lss (.t 50) (.c (I 5))),
 mM 52 51,
 OG 53 52 false (.mov (.t 0)),
 OG 54 52 false (.bin .gtr (.t 53) (.c (I 9))),
 O 55 (.pick (.t 52) (.c (.b true)) (.t 54))] [54,53,52,51,50]) (
 .cond (.t 55) (sq (.reg [
 mM 56 0,
 mM 57 1,
 O 58 (.call 0 983 [.t 56,.t 57]),
 mF 59 1 13,
 E (.store K0 (.t 59) (.t 58))] [59,58,1,57,0,56]) (
 sq (.reg [
 O 60 (.load (K1 2) (.t 13)),
 E (.store (K1 2) (.t 4) (.t 60)),
 mI 5 0] [13,60]) (
 .ret)))
 (.skip))) (
 sq (.reg [
 mM 62 0,
 mM 63 1,
 O 64 (.call 0 984 [.t 62,.t 63]),
 mM 61 64,
 mX 65 61 0,
 mX 66 61 1,
 mM 14 65,
 mM 15 66] [66,65,61,64,1,63,0,62]) (
 sq (.reg [
 mM 67 14,
 mF 68 1 13,
 E (.store K0 (.t 68) (.t 67))] [68,14,67]) (
 sq (sq (.reg [
 mM 69 15,
 O 70 (.bin .eql (.t 69) (.c (I 0))),
 mM 71 70,
 OG 72 71 true (.load (K1 2) (.t 13)),
 OG 73 71 true (.call 0 966 [.t 72]),
 OG 74 71 true (.un .not (.t 73)),
 O 75 (.pick (.t 71) (.t 74) (.c (.b false)))] [74,73,72,71,70,69]) (
 .cond (.t 75) (.reg [
 mI 15 6] [])
 (.skip))) (
 sq (sq (.reg [
 mM 76 15,
 O 77 (.bin .neq (.t 76) (.c (I 0)))] [76]) (
 .cond (.t 77) (sq (.reg [
 O 78 (.agg [I 0,I 0] []),
 mM 79 15,
 E (.store (K1 2) (.t 4) (.t 78)),
 mM 5 79] [15,79,78]) (
 .ret))
 (.skip))) (
 sq (.reg [
 O 80 (.load (K1 2) (.t 13)),
 E (.store (K1 2) (.t 4) (.t 80)),
 mI 5 0] [13,80]) (
 .ret)))))))))))))⟩
def qci:PF:=⟨2,[.t 4],
 sq (.reg [
 mI 4 0] [4]) (
 sq (.reg [
 mM 7 1,
 O 8 (.iaddr (K1 2) (.t 7) (.c (I 0))),
 mF 9 1 8,
 mL 10 9,
 mM 5 10] [10,9,8,7]) (
 sq (sq (.reg [
 mM 11 0] []) (
 .block 0 (
 sq (.reg [
 O 13 (.bin .eql (.t 11) (.c (I 16))),
 mM 12 13] [13]) (
 .cond (.t 12) (sq (.reg [
 mM 14 5,
 O 15 (.bin .sub (.c (I 1)) (.t 14)),
 mM 4 15] [15,5,14]) (
 .ret))
 (sq (.reg [
 O 17 (.bin .eql (.t 11) (.c (I 19))),
 mM 16 17] [11,17]) (
 .cond (.t 16) (sq (sq (.reg [
 mM 18 5,
 O 19 (.bin .eql (.t 18) (.c (I 1)))] [5,18]) (
 .cond (.t 19) (sq (.reg [
 mM 20 1,
 O 21 (.iaddr (K1 2) (.t 20) (.c (I 1))),
 mF 22 1 21,
 mL 23 22,
 mM 4 23] [23,22,21,1,20]) (
 .ret))
 (.skip))) (
 sq (.reg [
 mM 24 1,
 O 25 (.iaddr (K1 2) (.t 24) (.c (I 2))),
 mF 26 1 25,
 mL 27 26,
 mM 4 27] [27,26,25,1,24]) (
 .ret)))
 (.skip))))))) (
 sq (.reg [
 mM 28 1,
 O 29 (.iaddr (K1 2) (.t 28) (.c (I 1))),
 mF 30 1 29,
 mL 31 30,
 mM 6 31] [31,30,29,1,28]) (
 sq (sq (.reg [
 mM 32 0] [0]) (
 .block 1 (
 sq (.reg [
 O 34 (.bin .eql (.t 32) (.c (I 10))),
 mM 33 34] [34]) (
 .cond (.t 33) (sq (.reg [
 mM 35 5,
 mM 36 6,
 O 37 (.bin .eql (.t 35) (.t 36)),
 O 38 (.call 0 996 [.t 37]),
 mM 4 38] [38,37,6,36,5,35]) (
 .ret))
 (sq (.reg [
 O 40 (.bin .eql (.t 32) (.c (I 11))),
 mM 39 40] [40]) (
 .cond (.t 39) (sq (.reg [
 mM 41 5,
 mM 42 6,
 O 43 (.bin .neq (.t 41) (.t 42)),
 O 44 (.call 0 996 [.t 43]),
 mM 4 44] [44,43,6,42,5,41]) (
 .ret))
 (sq (.reg [
 O 46 (.bin .eql (.t 32) (.c (I 12))),
 mM 45 46] [46]) (
 .cond (.t 45) (sq (.reg [
 mM 47 5,
 mM 48 6,
 O 49 (.bin .lss (.t 47) (.t 48)),
 O 50 (.call 0 996 [.t 49]),
 mM 4 50] [50,49,6,48,5,47]) (
 .ret))
 (sq (.reg [
 O 52 (.bin .eql (.t 32) (.c (I 13))),
 mM 51 52] [52]) (
 .cond (.t 51) (sq (.reg [
 mM 53 5,
 mM 54 6,
 O 55 (.bin .leq (.t 53) (.t 54)),
 O 56 (.call 0 996 [.t 55]),
 mM 4 56] [56,55,6,54,5,53]) (
 .ret))
 (sq (.reg [
 O 58 (.bin .eql (.t 32) (.c (I 14))),
 mM 57 58] [58]) (
 .cond (.t 57) (sq (.reg [
 mM 59 5,
 mM 60 6,
 O 61 (.bin .mul (.t 59) (.t 60)),
 mM 4 61] [61,6,60,5,59]) (
 .ret))
 (sq (.reg [
 O 63 (.bin .eql (.t 32) (.c (I 15))),
 mM 62 63] [63]) (
 .cond (.t 62) (sq (.reg [
 mM 64 5,
 mM 65 6,
 O 66 (.minmax true [.t 64,.t 65]),
 mM 4 66] [66,6,65,5,64]) (
 .ret))
 (sq (.reg [
 O 68 (.bin .eql (.t 32) (.c (I 17))),
 mM 67 68] [32,68]) (
 .cond (.t 67) (sq (.reg [
 mM 69 5,
 mM 70 6,
 O 71 (.minmax false [.t 69,.t 70]),
 mM 4 71] [71,6,70,5,69]) (
 .ret))
 (.skip))))))))))))))))) (
 sq (.reg [
 mM 72 5,
 mM 73 6,
 O 74 (.minmax true [.t 72,.t 73]),
 mM 4 74] [74,6,73,5,72]) (
 .ret))))))⟩
def qga:PF:=⟨2,[.t 4,.t 5],
 sq (.reg [
 mI 4 0,
 mI 5 0] [5,4]) (
 sq (.reg [
 mM 8 1,
 O 9 (.iaddr (K1 2) (.t 8) (.c (I 0))),
 O 10 (.load (K1 2) (.t 9)),
 O 6 (.alloc (K1 2) (.a [I 0,I 0])),
 E (.store (K1 2) (.t 6) (.t 10))] [10,9,8]) (
 sq (sq (.reg [
 mM 11 0,
 O 12 (.bin .eql (.t 11) (.c (I 9)))] [11]) (
 .cond (.t 12) (sq (.regD [
 O 13 (.call 0 44 [(.c (I 0))]),
 mF 14 1 6,
 mL 15 14,
 O 16 (.call 0 44 [.t 15]),
 O 17 (.call 0 42 [.t 13,.t 16]),
 mX 18 17 0,
 mX 19 17 1,
 O 20 (.call 0 997 [.t 18,.t 19]),
 mX 21 20 0,
 mX 22 20 1,
 mM 4 21,
 mM 5 22] [0,0,2,7,15,31,31,127,255,255,1023,2047] [22,21,20,19,18,17,16,15,6,14,13]) (
 .ret))
 (.skip))) (
 sq (.reg [
 mM 23 1,
 O 24 (.iaddr (K1 2) (.t 23) (.c (I 1))),
 O 25 (.load (K1 2) (.t 24)),
 O 7 (.alloc (K1 2) (.a [I 0,I 0])),
 E (.store (K1 2) (.t 7) (.t 25))] [25,24,1,23]) (
 sq (sq (.reg [
 mM 26 0] [0]) (
 .block 0 (
 sq (.reg [
 O 28 (.bin .eql (.t 26) (.c (I 5))),
 mM 27 28] [28]) (
 .cond (.t 27) (sq (.regD [
 mF 29 1 6,
 mL 30 29,
 O 31 (.call 0 44 [.t 30]),
 mF 32 1 7,
 mL 33 32,
 O 34 (.call 0 44 [.t 33]),
 O 35 (.call 0 31 [.t 31,.t 34]),
 mX 36 35 0,
 mX 37 35 1,
 O 38 (.call 0 997 [.t 36,.t 37]),
 mX 39 38 0,
 mX 40 38 1,
 mM 4 39,
 mM 5 40] [0,1,3,0,8,31,63,127,127,511,1023,1023,4095,8191] [40,39,38,37,36,35,34,33,7,32,31,30,6,29]) (
 .ret))
 (sq (.reg [
 O 42 (.bin .eql (.t 26) (.c (I 6))),
 mM 41 42] [42]) (
 .cond (.t 41) (sq (.regD [
 mF 43 1 6,
 mL 44 43,
 O 45 (.call 0 44 [.t 44]),
 mF 46 1 7,
 mL 47 46,
 O 48 (.call 0 44 [.t 47]),
 O 49 (.call 0 42 [.t 45,.t 48]),
 mX 50 49 0,
 mX 51 49 1,
 O 52 (.call 0 997 [.t 50,.t 51]),
 mX 53 52 0,
 mX 54 52 1,
 mM 4 53,
 mM 5 54] [0,1,3,0,8,31,63,127,127,511,1023,1023,4095,8191] [54,53,52,51,50,49,48,47,7,46,45,44,6,43]) (
 .ret))
 (sq (.reg [
 O 56 (.bin .eql (.t 26) (.c (I 7))),
 mM 55 56] [26,56]) (
 .cond (.t 55) (sq (.reg [
 O 57 (.load (K1 2) (.t 6)),
 O 58 (.load (K1 2) (.t 7)),
 O 59 (.call 0 998 [.t 57,.t 58]),
 mX 60 59 0,
 mX 61 59 1,
 mM 4 60,
 mM 5 61] [61,60,59,7,58,6,57]) (
 .ret))
 (.skip))))))))) (
 sq (sq (.reg [
 mF 62 1 7,
 mL 63 62,
 O 64 (.bin .eql (.t 63) (.c (I 0)))] [63,62]) (
 .cond (.t 64) (sq (.reg [
 mI 4 0,
 mI 5 7] []) (
 .ret))
 (.skip))) (
 sq (.reg [
 O 65 (.load (K1 2) (.t 6)),
 O 66 (.load (K1 2) (.t 7)),
 O 67 (.call 0 999 [.t 65,.t 66]),
 mX 68 67 0,
 mX 69 67 1,
 mM 4 68,
 mM 5 69] [69,68,67,7,66,6,65]) (
 .ret)))))))⟩
def qiR:PF:=⟨1,[.t 2],
 sq (.reg [
 mI 2 0] [2]) (
 sq (sq (.reg [
 mM 3 0] [0]) (
 .cond (.t 3) (sq (.reg [
 mI 2 1] []) (
 .ret))
 (.skip))) (
 sq (.reg [
 mI 2 0] []) (
 .ret)))⟩
def qi6:PF:=⟨2,[.t 4,.t 5],
 sq (.reg [
 O 2 (.box (K1 2) (.t 0)),
 mI 4 0,
 mI 5 0] [5,4,0]) (
 sq (.reg [
 O 9 (.load (K1 2) (.t 2)),
 O 10 (.call 0 46 [.t 9]),
 mM 8 10,
 mX 11 8 0,
 mX 12 8 1,
 mM 6 11,
 mM 7 12] [12,11,8,10,2,9]) (
 sq (sq (.reg [
 mM 13 1,
 O 14 (.bin .neq (.t 13) (.c (I 0))),
 mM 15 14,
 OG 16 15 false (.mov (.t 7)),
 OG 17 15 false (.un .not (.t 16)),
 O 18 (.pick (.t 15) (.c (.b true)) (.t 17))] [17,7,16,15,14,1,13]) (
 .cond (.t 18) (sq (.reg [
 mI 4 0,
 mI 5 6] []) (
 .ret))
 (.skip))) (
 sq (.reg [
 mM 19 6,
 mM 4 19,
 mI 5 0] [6,19]) (
 .ret))))⟩
def qhp:PF:=⟨2,[.t 4,.t 5],
 sq (.reg [
 O 2 (.box (K1 2) (.t 0)),
 O 3 (.box (K1 2) (.t 1)),
 mI 4 0,
 mI 5 0] [5,4,1,0]) (
 sq (.reg [
 mF 7 1 2,
 mL 8 7,
 mF 9 1 3,
 mL 10 9,
 O 11 (.call 0 37 [.t 8,.t 10]),
 O 6 (.alloc (K1 2) (.a [I 0,(.i .u64 0)])),
 E (.store (K1 2) (.t 6) (.t 11))] [11,10,9,8,7]) (
 sq (sq (.reg [
 mF 12 0 2,
 mL 13 12,
 mF 14 0 3,
 mL 15 14,
 O 16 (.bin .neq (.t 13) (.t 15)),
 mM 17 16,
 OG 18 17 true (.faddr 0 (.t 2)),
 OG 19 17 true (.load K0 (.t 18)),
 OG 20 17 true (.bin .neq (.t 19) (.c (I 1))),
 O 21 (.pick (.t 17) (.t 20) (.c (.b false))),
 mM 22 21,
 OG 23 22 true (.faddr 0 (.t 3)),
 OG 24 22 true (.load K0 (.t 23)),
 OG 25 22 true (.bin .neq (.t 24) (.c (I 1))),
 O 26 (.pick (.t 22) (.t 25) (.c (.b false)))] [25,24,23,22,21,20,19,18,17,16,15,3,14,13,2,12]) (
 .cond (.t 26) (sq (.reg [
 O 27 (.load (K1 2) (.t 6)),
 O 28 (.call 0 36 [.t 27,(.c (I 1000000)),(.c (I 6))]),
 mX 29 28 0,
 mX 30 28 1,
 mM 4 29,
 mM 5 30] [30,29,28,6,27]) (
 .ret))
 (.skip))) (
 sq (.reg [
 O 31 (.load (K1 2) (.t 6)),
 O 32 (.call 0 997 [.t 31,(.c (I 0))]),
 mX 33 32 0,
 mX 34 32 1,
 mM 4 33,
 mM 5 34] [34,33,32,6,31]) (
 .ret))))⟩
def qgs:PF:=⟨2,[.t 4,.t 5],
 sq (.reg [
 O 2 (.box (K1 2) (.t 0)),
 O 3 (.box (K1 2) (.t 1)),
 mI 4 0,
 mI 5 0] [5,4,1,0]) (
 sq (sq (.reg [
 mF 6 0 2,
 mL 7 6,
 mF 8 0 3,
 mL 9 8,
 O 10 (.bin .eql (.t 7) (.t 9))] [9,8,7,6]) (
 .cond (.t 10) (sq (sq (.reg [
 mF 11 1 2,
 mL 12 11,
 O 13 (.bin .eql (.t 12) (.c (I (-9223372036854775808)))),
 mM 14 13,
 OG 15 14 true (.faddr 1 (.t 3)),
 OG 16 14 true (.load K0 (.t 15)),
 OG 17 14 true (.bin .eql (.t 16) (.c (I (-1)))),
 O 18 (.pick (.t 14) (.t 17) (.c (.b false)))] [17,16,15,14,13,12,11]) (
 .cond (.t 18) (sq (.reg [
 mI 4 0,
 mI 5 6] []) (
 .ret))
 (.skip))) (
 sq (.reg [
 mF 19 1 2,
 mL 20 19,
 mF 21 1 3,
 mL 22 21,
 O 23 (.bin .quo (.t 20) (.t 22)),
 mM 4 23,
 mI 5 0] [23,22,3,21,20,2,19]) (
 .ret)))
 (.skip))) (
 sq (.block 0 (
 sq (.reg [
 mF 25 1 3,
 mL 26 25,
 O 27 (.bin .eql (.t 26) (.c (I (-9223372036854775808)))),
 mM 24 27] [27,26,25]) (
 .cond (.t 24) (sq (.reg [
 mI 4 0,
 mI 5 0] []) (
 .ret))
 (sq (.reg [
 mF 29 1 3,
 mL 30 29,
 O 31 (.bin .lss (.t 30) (.c (I 0))),
 mM 28 31] [31,30,29]) (
 .cond (.t 28) (sq (.regD [
 mF 32 1 2,
 mL 33 32,
 O 34 (.un .neg (.t 33)),
 O 35 (.call 0 44 [.t 34]),
 mF 36 1 3,
 mL 37 36,
 O 38 (.un .neg (.t 37)),
 O 39 (.call 0 36 [.t 35,.t 38,(.c (I 6))]),
 mX 40 39 0,
 mX 41 39 1,
 mM 4 40,
 mM 5 41] [0,1,3,7,0,16,48,127,255,255,1023,2047] [41,40,39,38,37,3,36,35,34,33,2,32]) (
 .ret))
 (.skip)))))) (
 sq (.regD [
 mF 42 1 2,
 mL 43 42,
 O 44 (.call 0 44 [.t 43]),
 mF 45 1 3,
 mL 46 45,
 O 47 (.call 0 36 [.t 44,.t 46,(.c (I 6))]),
 mX 48 47 0,
 mX 49 47 1,
 mM 4 48,
 mM 5 49] [0,1,3,0,8,31,63,63,255,511] [49,48,47,46,3,45,44,43,2,42]) (
 .ret))))⟩
end Go.Sim
end
section
namespace Go.Sim
def qgS:PC :=
 sq (.reg [
 O 51 (.bin .lss (.t 50) (.t 49))] []) (
 sq (.cond (.t 51) (.skip)
 (.exit 0)) (
 sq (.block 1 (
 sq (.reg [
 O 52 (.iaddr (K1 10) (.t 48) (.t 50)),
 O 53 (.load (K1 10) (.t 52)),
 O 17 (.alloc (K1 10) (.a [.s [],I 0,I 0,I 0,.s [],(.l (K1 4) [] true),I 0,I 0,.s [],(.l (K1 4) [] true)])),
 E (.store (K1 10) (.t 17) (.t 53))] [53,52]) (
 sq (.reg [
 O 55 (.load (K1 10) (.t 17)),
 mM 56 14,
 O 57 (.agg [.s [],I 0,I 0,I 0,.s [],(.l (K1 4) [] true),I 0,I 0,.s [],(.l (K1 4) [] true),(.l (K1 2) [] true)] [(0,(K1 10),(.t 55)),(10,K0,(.t 56))]),
 O 58 (.call 0 802 [.t 57]),
 mM 54 58,
 mX 59 54 0,
 mX 60 54 1,
 mM 18 59,
 mM 19 60] [60,59,54,58,57,56,55]) (
 sq (sq (.reg [
 mM 61 19,
 O 62 (.bin .neq (.t 61) (.c (I 0)))] [61]) (
 .cond (.t 62) (sq (.reg [
 mM 63 19,
 O 10 (.mov (.c (.l (K1 2) [] true))),
 mM 11 63] [19,63]) (
 .ret))
 (.skip))) (
 sq (.reg [
 mM 64 18,
 O 65 (.bin .gtr (.t 64) (.c (I 0)))] [64]) (
 .cond (.t 65) (.reg [
 mM 66 15,
 mF 67 0 17,
 mL 68 67,
 mM 69 18,
 O 70 (.agg [.s [],I 0] [(0,K0,(.t 68)),(1,K0,(.t 69))]),
 O 71 (.bsl (K1 2) (.a [.s [],I 0]) 1 [(0,(.t 70))]),
 O 72 (.app (K1 2) 24 (.t 66) (.t 71)),
 mM 15 72] [72,71,70,18,69,68,17,67,66])
 (.skip))))))) (
 .reg [
 O 73 (.bin .add (.t 50) (.c (I 1))),
 mM 50 73] [73])))
def qhh:PF:=⟨5,[.t 10,.t 11],
 sq (.reg [
 O 5 (.box (K1 22) (.t 0)),
 O 10 (.mov (.c (.l (K1 2) [] true))),
 mI 11 0] [11,10,0]) (
 sq (.reg [
 O 21 (.load (K1 22) (.t 5)),
 mM 22 1,
 mM 23 2,
 mM 24 3,
 mM 25 4,
 O 26 (.call 0 800 [.t 21,.t 22,.t 23,.t 24,.t 25]),
 mM 20 26,
 mX 27 20 0,
 mX 28 20 1,
 mM 12 27,
 mM 13 28] [28,27,20,26,25,3,24,23,22,21]) (
 sq (sq (.reg [
 mM 29 13,
 O 30 (.bin .neq (.t 29) (.c (I 0))),
 mM 31 30,
 OG 32 31 false (.mov (.t 12)),
 OG 33 31 false (.len false (.t 32)),
 OG 34 31 false (.bin .eql (.t 33) (.c (I 0))),
 O 35 (.pick (.t 31) (.c (.b true)) (.t 34))] [34,33,32,31,30,29]) (
 .cond (.t 35) (sq (.reg [
 mM 36 13,
 O 10 (.mov (.c (.l (K1 2) [] true))),
 mM 11 36] [13,36]) (
 .ret))
 (.skip))) (
 sq (.reg [
 O 38 (.load (K1 22) (.t 5)),
 mM 39 1,
 mM 40 2,
 mM 41 4,
 O 42 (.call 0 801 [.t 38,.t 39,.t 40,.t 41]),
 mM 37 42,
 mX 43 37 0,
 mX 44 37 1,
 mM 14 43,
 mM 13 44] [44,43,37,42,4,41,2,40,1,39,5,38]) (
 sq (sq (.reg [
 mM 45 13,
 O 46 (.bin .neq (.t 45) (.c (I 0)))] [45]) (
 .cond (.t 46) (sq (.reg [
 mM 47 13,
 O 10 (.mov (.c (.l (K1 2) [] true))),
 mM 11 47] [13,47]) (
 .ret))
 (.skip))) (
 sq (.reg [
 O 15 (.mov (.c (.l (K1 2) [] true)))] []) (
 sq (sq (.reg [
 mM 48 12,
 O 49 (.len false (.t 48)),
 mI 50 0] [12]) (
 .block 0 (
 .loop [14,15,48,49,50] qgS))) (
 sq (.reg [
 mM 74 15,
 mM 10 74,
 mI 11 0] [15,74]) (
 .ret))))))))⟩
def qfC:PF:=⟨5,[.t 10,.t 11],
 sq (.reg [
 O 5 (.box (K1 22) (.t 0)),
 O 10 (.mov (.c (.l (K1 10) [] true))),
 mI 11 0] [11,10,0]) (
 sq (.reg [
 O 16 (.load (K1 22) (.t 5)),
 mM 17 1,
 O 18 (.call 0 12 [.t 16,.t 17]),
 mM 15 18,
 mX 19 15 0,
 mX 20 15 1,
 O 12 (.alloc (K1 7) (.a [I 0,I 0,I 0,I 0,.s [],.s [],.s []])),
 E (.store (K1 7) (.t 12) (.t 19)),
 mM 13 20] [12,20,19,15,18,17,16]) (
 sq (.block 0 (
 sq (.reg [
 mM 22 13,
 O 23 (.un .not (.t 22)),
 mM 21 23] [23,13,22]) (
 .cond (.t 21) (sq (.reg [
 O 10 (.mov (.c (.l (K1 10) [] true))),
 mI 11 11] []) (
 .ret))
 (sq (.reg [
 mM 25 2,
 O 26 (.call 0 22 [.t 25]),
 O 27 (.un .not (.t 26)),
 mM 28 27,
 OG 29 28 false (.load (K1 22) (.t 5)),
 OG 30 28 false (.mov (.t 1)),
 OG 31 28 false (.mov (.t 2)),
 OG 32 28 false (.call 0 39 [.t 29,.t 30,.t 31]),
 OG 33 28 false (.un .not (.t 32)),
 O 34 (.pick (.t 28) (.c (.b true)) (.t 33)),
 mM 24 34] [34,33,32,31,30,29,28,27,26,25]) (
 .cond (.t 24) (sq (.reg [
 O 10 (.mov (.c (.l (K1 10) [] true))),
 mI 11 16] []) (
 .ret))
 (sq (.reg [
 mM 36 3,
 O 37 (.bin .lss (.t 36) (.c (I 1))),
 mM 38 37,
 OG 39 38 false (.mov (.t 3)),
 OG 40 38 false (.bin .gtr (.t 39) (.c (I 4))),
 O 41 (.pick (.t 38) (.c (.b true)) (.t 40)),
 mM 42 41,
 OG 43 42 false (.mov (.t 4)),
 OG 44 42 false (.bin .lss (.t 43) (.c (I 0))),
 O 45 (.pick (.t 42) (.c (.b true)) (.t 44)),
 mM 46 45,
 OG 47 46 false (.mov (.t 4)),
 OG 48 46 false (.bin .gtr (.t 47) (.c (I 1000000000000))),
 O 49 (.pick (.t 46) (.c (.b true)) (.t 48)),
 mM 35 49] [49,48,47,46,45,44,4,43,42,41,40,39,38,37,36]) (
 .cond (.t 35) (sq (.reg [
 O 10 (.mov (.c (.l (K1 10) [] true))),
 mI 11 1] []) (
 .ret))
 (.skip)))))))) (
 sq (.reg [
 O 51 (.load (K1 22) (.t 5)),
 mM 52 1,
 mM 53 2,
 O 54 (.call 0 24 [.t 51,.t 52,.t 53]),
 mM 50 54,
 mX 55 50 0,
 mX 56 50 1,
 O 14 (.alloc (K1 19) (.a [.s [],.s [],.s [],I 0,I 0,I 0,I 0,(.l (K1 2) [] true),(.b false),I 0,I 0,(.b false),(.l (K1 2) [] true),(.b false),I 0,I 0,(.b false),(.l (K1 10) [] true),(.l (K1 6) [] true)])),
 E (.store (K1 19) (.t 14) (.t 55)),
 mM 13 56] [56,55,50,54,2,53,1,52,5,51]) (
 sq (sq (.reg [
 mM 57 13,
 O 58 (.un .not (.t 57))] [13,57]) (
 .cond (.t 58) (sq (.reg [
 O 10 (.mov (.c (.l (K1 10) [] true))),
 mI 11 11] []) (
 .ret))
 (.skip))) (
 sq (.reg [
 O 59 (.load (K1 19) (.t 14)),
 mM 60 3,
 O 61 (.call 0 878 [.t 59,.t 60]),
 mM 10 61,
 mI 11 0] [61,3,60,14,59]) (
 .ret))))))⟩
def qg2:PF:=⟨1,[.t 2,.t 3],
 sq (.reg [
 O 1 (.box (K1 11) (.t 0)),
 mI 2 0,
 mI 3 0] [3,2,0]) (
 sq (.reg [
 O 4 (.mov (.f 886))] []) (
 sq (.reg [
 mM 8 4,
 O 9 (.load (K1 11) (.t 1)),
 O 10 (.callv (.t 8) [.t 9]),
 mM 7 10,
 mX 11 7 0,
 mX 12 7 1,
 O 5 (.alloc (K1 2) (.a [I 0,I 0])),
 E (.store (K1 2) (.t 5) (.t 11)),
 mM 6 12] [12,11,7,10,9,4,8]) (
 sq (sq (.reg [
 mM 13 6,
 O 14 (.bin .neq (.t 13) (.c (I 0))),
 mM 15 14,
 OG 16 15 false (.load (K1 2) (.t 5)),
 OG 17 15 false (.agg [I 0,I 0] [(0,K0,(.c (I 5))),(1,K0,(.c (I 1)))]),
 OG 18 15 false (.eqv true [1,1] (.t 16) (.t 17)),
 O 19 (.pick (.t 15) (.c (.b true)) (.t 18))] [18,17,16,15,14,13]) (
 .cond (.t 19) (sq (.reg [
 mM 20 6,
 mI 2 0,
 mM 3 20] [6,20]) (
 .ret))
 (.skip))) (
 sq (.reg [
 O 4 (.mov (.f 887))] []) (
 sq (.reg [
 mM 22 4,
 O 23 (.load (K1 11) (.t 1)),
 O 24 (.callv (.t 22) [.t 23]),
 mM 21 24,
 mX 25 21 0,
 mX 26 21 1,
 E (.store (K1 2) (.t 5) (.t 25)),
 mM 6 26] [26,25,21,24,1,23,4,22]) (
 sq (sq (.reg [
 mM 27 6,
 O 28 (.bin .neq (.t 27) (.c (I 0)))] [27]) (
 .cond (.t 28) (sq (.reg [
 mM 29 6,
 mI 2 0,
 mM 3 29] [6,29]) (
 .ret))
 (.skip))) (
 sq (.reg [
 mF 30 1 5,
 mL 31 30,
 O 32 (.minmax true [(.c (I 0)),.t 31]),
 mM 2 32,
 mI 3 0] [32,31,5,30]) (
 .ret))))))))⟩
def qh8:PC :=
 sq (.reg [
 O 12 (.bin .lss (.t 11) (.t 10))] []) (
 sq (.cond (.t 12) (.skip)
 (.exit 0)) (
 sq (.block 1 (
 sq (.reg [
 O 13 (.iaddr (K1 10) (.t 9) (.t 11)),
 O 14 (.load (K1 10) (.t 13)),
 O 7 (.alloc (K1 10) (.a [.s [],I 0,I 0,I 0,.s [],(.l (K1 4) [] true),I 0,I 0,.s [],(.l (K1 4) [] true)])),
 E (.store (K1 10) (.t 7) (.t 14))] [14,13]) (
 sq (.reg [
 mF 15 1 7,
 mL 16 15,
 mM 17 1,
 O 18 (.bin .eql (.t 16) (.t 17))] [17,16,15]) (
 .cond (.t 18) (sq (.regD [
 mF 19 2 7,
 O 20 (.load (K1 4) (.t 19)),
 O 21 (.call 0 932 [.t 20]),
 mF 22 6 7,
 O 23 (.load (K1 4) (.t 22)),
 O 24 (.call 0 932 [.t 23]),
 mF 25 2 7,
 E (.store (K1 4) (.t 25) (.t 21)),
 mF 26 6 7,
 E (.store (K1 4) (.t 26) (.t 24))] [0,1,3,0,8,31,31,127,255,511] [26,25,24,23,22,21,20,19]) (
 .reg [
 mM 27 5,
 O 28 (.load (K1 10) (.t 7)),
 O 29 (.bsl (K1 10) (.a [.s [],I 0,I 0,I 0,.s [],(.l (K1 4) [] true),I 0,I 0,.s [],(.l (K1 4) [] true)]) 1 [(0,(.t 28))]),
 O 30 (.app (K1 10) 136 (.t 27) (.t 29)),
 mM 5 30] [30,29,7,28,27]))
 (.skip))))) (
 .reg [
 O 31 (.bin .add (.t 11) (.c (I 1))),
 mM 11 31] [31])))
def qi1:PF:=⟨2,[.t 4],
 sq (.reg [
 O 2 (.box (K1 19) (.t 0)),
 O 4 (.mov (.c (.l (K1 10) [] true)))] [4,0]) (
 sq (.reg [
 O 5 (.mov (.c (.l (K1 10) [] true)))] []) (
 sq (sq (.reg [
 mF 8 17 2,
 mL 9 8,
 O 10 (.len false (.t 9)),
 mI 11 0] [2,8]) (
 .block 0 (
 .loop [1,5,9,10,11] qh8))) (
 sq (.reg [
 mM 32 5,
 mM 4 32] [5,32]) (
 .ret))))⟩
def qkI:PF:=⟨1,[.c 2 (K1 2),.t 3],
 sq (.reg [
 O 1 (.box (K1 11) (.t 0)),
 O 2 (.alloc (K1 2) (.a [I 0,I 0])),
 mI 3 0] [3,0]) (
 sq (.regD [
 mF 4 0 1,
 mF 5 2 4,
 O 6 (.load (K1 4) (.t 5)),
 O 7 (.call 0 371 []),
 mF 8 10 1,
 mL 9 8,
 O 10 (.call 0 916 [.t 6,.t 7,.t 9]),
 mX 11 10 0,
 mX 12 10 1,
 E (.store (K1 2) (.t 2) (.t 11)),
 mM 3 12] [0,1,3,0,0,16,63,127,127,511,1023] [12,11,10,9,8,7,6,5,1,4]) (
 .ret))⟩
def qjx:PF:=⟨1,[.c 2 (K1 2),.t 3],
 sq (.reg [
 O 1 (.box (K1 11) (.t 0)),
 O 2 (.alloc (K1 2) (.a [I 0,I 0])),
 mI 3 0] [3,0]) (
 sq (.regD [
 mF 4 0 1,
 mF 5 6 4,
 O 6 (.load (K1 4) (.t 5)),
 O 7 (.call 0 371 []),
 mF 8 10 1,
 mL 9 8,
 O 10 (.call 0 916 [.t 6,.t 7,.t 9]),
 mX 11 10 0,
 mX 12 10 1,
 E (.store (K1 2) (.t 2) (.t 11)),
 mM 3 12] [0,1,3,0,0,16,63,127,127,511,1023] [12,11,10,9,8,7,6,5,1,4]) (
 .ret))⟩
def qnK:PC :=
 sq (.reg [
 O 12 (.bin .lss (.t 11) (.t 10))] []) (
 sq (.cond (.t 12) (.skip)
 (.exit 0)) (
 sq (.block 1 (
 sq (.reg [
 mM 13 11,
 mM 3 13] [13]) (
 .regD [
 mF 14 3 1,
 mL 15 14,
 mM 16 3,
 mF 17 3 1,
 mL 18 17,
 mM 19 3,
 O 20 (.iaddr (K1 4) (.t 18) (.t 19)),
 O 21 (.load (K1 4) (.t 20)),
 O 22 (.call 0 932 [.t 21]),
 O 23 (.iaddr (K1 4) (.t 15) (.t 16)),
 E (.store (K1 4) (.t 23) (.t 22))] [0,1,0,0,8,0,56,120,248,511,1023] [23,22,21,20,19,18,17,3,16,15,14]))) (
 .reg [
 O 24 (.bin .add (.t 11) (.c (I 1))),
 mM 11 24] [24])))
def qkA:PF:=⟨1,[.c 2 (K1 4)],
 sq (.reg [
 O 1 (.box (K1 4) (.t 0)),
 O 2 (.alloc (K1 4) (.a [I 0,I 0,.s [],(.l (K1 4) [] true)]))] [0]) (
 sq (.reg [
 mF 4 3 1,
 mL 5 4,
 O 6 (.call 1 956 [.t 5]),
 mF 7 3 1,
 E (.store K0 (.t 7) (.t 6))] [7,6,5,4]) (
 sq (sq (.reg [
 mF 8 3 1,
 mL 9 8,
 O 10 (.len false (.t 9)),
 mI 11 0] [9,8]) (
 .block 0 (
 .loop [1,2,10,11] qnK))) (
 sq (.reg [
 O 25 (.load (K1 4) (.t 1)),
 E (.store (K1 4) (.t 2) (.t 25))] [1,25]) (
 .ret))))⟩
def qhv:PC :=
 sq (sq (.reg [
 mM 49 11,
 mM 50 10,
 O 51 (.len false (.t 50)),
 O 52 (.bin .lss (.t 49) (.t 51))] [51,50,49]) (
 .cond (.t 52) (.skip)
 (.exit 2))) (
 sq (.block 3 (
 sq (.regD [
 mM 55 10,
 mM 56 11,
 O 57 (.iaddr (K1 10) (.t 55) (.t 56)),
 mF 58 1 57,
 mL 59 58,
 mF 60 2 3,
 mL 61 60,
 O 62 (.bin .eql (.t 59) (.t 61))] [0,0,3,7,15,0,32,127] [61,60,59,58,57,56,55]) (
 .cond (.t 62) (.reg [
 mM 63 9,
 mM 64 10,
 mM 65 11,
 O 66 (.iaddr (K1 10) (.t 64) (.t 65)),
 O 67 (.load (K1 10) (.t 66)),
 O 68 (.bsl (K1 10) (.a [.s [],I 0,I 0,I 0,.s [],(.l (K1 4) [] true),I 0,I 0,.s [],(.l (K1 4) [] true)]) 1 [(0,(.t 67))]),
 O 69 (.app (K1 10) 136 (.t 63) (.t 68)),
 mM 9 69] [69,68,67,66,65,64,63])
 (.skip)))) (
 .reg [
 mM 53 11,
 O 54 (.bin .add (.t 53) (.c (I 1))),
 mM 11 54] [54,53]))
def qmm:PC :=
 sq (sq (.reg [
 mM 36 8,
 mF 37 17 7,
 mL 38 37,
 O 39 (.len false (.t 38)),
 O 40 (.bin .lss (.t 36) (.t 39))] [39,38,37,36]) (
 .cond (.t 40) (.skip)
 (.exit 0))) (
 sq (.block 1 (
 sq (.reg [
 O 9 (.mov (.c (.l (K1 10) [] true)))] []) (
 sq (.reg [
 mF 43 17 7,
 mL 44 43,
 mM 45 8,
 O 46 (.iaddr (K1 19) (.t 44) (.t 45)),
 mF 47 17 46,
 mL 48 47,
 mM 10 48] [48,47,46,45,44,43]) (
 sq (sq (.reg [
 mI 11 0] []) (
 .block 2 (
 .loop [3,5,6,7,8,9,10,11] qhv))) (
 .reg [
 mF 70 17 7,
 mL 71 70,
 mM 72 8,
 mM 73 9,
 O 74 (.iaddr (K1 19) (.t 71) (.t 72)),
 mF 75 17 74,
 E (.store K0 (.t 75) (.t 73))] [75,74,9,73,72,71,70]))))) (
 .reg [
 mM 41 8,
 O 42 (.bin .add (.t 41) (.c (I 1))),
 mM 8 42] [42,41]))
def qho:PF:=⟨2,[.t 4],
 sq (.reg [
 O 2 (.box (K1 22) (.t 0)),
 O 3 (.box (K1 4) (.t 1)),
 O 4 (.mov (.c (.b false)))] [4,1,0]) (
 sq (sq (.reg [
 O 14 (.load (K1 22) (.t 2)),
 O 15 (.call 0 1090 [.t 14])] [14]) (
 .cond (.t 15) (sq (.reg [
 O 16 (.call 0 1123 []),
 mM 4 16] [16]) (
 .ret))
 (.skip))) (
 sq (.reg [
 O 18 (.load (K1 22) (.t 2)),
 mF 19 0 3,
 mL 20 19,
 mF 21 1 3,
 mL 22 21,
 mF 23 2 3,
 mL 24 23,
 mF 25 3 3,
 mL 26 25,
 O 27 (.call 0 717 [.t 18,.t 20,.t 22,.t 24,.t 26]),
 mM 17 27,
 mX 28 17 0,
 mX 29 17 1,
 mM 5 28,
 mM 6 29] [29,28,17,27,26,25,24,23,22,21,20,19,18]) (
 sq (.reg [
 O 30 (.load (K1 22) (.t 2)),
 O 7 (.alloc (K1 22) (.a [(.l (K1 2) [] true),(.l (K1 3) [] true),(.l (K1 4) [] true),I 0,I 0,I 0,I 0,I 0,I 0,I 0,I 0,I 0,I 0,I 0,I 0,I 0,I 0,(.l (K1 19) [] true),(.l (K1 7) [] true),(.l (K1 10) [] true),(.l (K1 6) [] true),(.l (K1 7) [] true)])),
 E (.store (K1 22) (.t 7) (.t 30))] [30]) (
 sq (.reg [
 O 31 (.bsl (K1 19) (.a [.s [],.s [],.s [],I 0,I 0,I 0,I 0,(.l (K1 2) [] true),(.b false),I 0,I 0,(.b false),(.l (K1 2) [] true),(.b false),I 0,I 0,(.b false),(.l (K1 10) [] true),(.l (K1 6) [] true)]) 0 []),
 mF 32 17 2,
 mL 33 32,
 O 34 (.app (K1 19) 240 (.t 31) (.t 33)),
 mF 35 17 7,
 E (.store K0 (.t 35) (.t 34))] [35,34,33,2,32,31]) (
 sq (sq (.reg [
 mI 8 0] []) (
 .block 0 (
 .loop [3,5,6,7,8] qmm))) (
 sq (.reg [
 O 77 (.load (K1 22) (.t 7)),
 mF 78 0 3,
 mL 79 78,
 mF 80 1 3,
 mL 81 80,
 mF 82 2 3,
 mL 83 82,
 mF 84 3 3,
 mL 85 84,
 O 86 (.call 0 717 [.t 77,.t 79,.t 81,.t 83,.t 85]),
 mM 76 86,
 mX 87 76 0,
 mX 88 76 1,
 mM 12 87,
 mM 13 88] [88,87,76,86,85,84,83,82,81,80,79,3,78,7,77]) (
 sq (.reg [
 mM 89 6,
 mM 90 13,
 O 91 (.bin .eql (.t 89) (.t 90)),
 mM 92 91,
 OG 93 92 true (.mov (.t 5)),
 OG 94 92 true (.mov (.t 12)),
 OG 95 92 true (.call 0 1124 [.t 93,.t 94]),
 O 96 (.pick (.t 92) (.t 95) (.c (.b false))),
 mM 97 96,
 OG 98 97 true (.call 0 1123 []),
 O 99 (.pick (.t 97) (.t 98) (.c (.b false))),
 mM 4 99] [99,98,97,96,95,12,94,5,93,92,91,13,90,6,89]) (
 .ret))))))))⟩
def ql5:PC :=
 sq (sq (.reg [
 mM 11 5,
 mM 12 0,
 O 13 (.len false (.t 12)),
 O 14 (.bin .lss (.t 11) (.t 13))] [13,12,11]) (
 .cond (.t 14) (.skip)
 (.exit 0))) (
 sq (.block 1 (
 sq (.regD [
 mM 17 0,
 mM 18 5,
 O 19 (.iaddr (K1 2) (.t 17) (.t 18)),
 O 20 (.load (K1 2) (.t 19)),
 mM 21 1,
 mM 22 5,
 O 23 (.iaddr (K1 2) (.t 21) (.t 22)),
 O 24 (.load (K1 2) (.t 23)),
 O 25 (.eqv true [3,1] (.t 20) (.t 24))] [0,0,3,7,0,0,48,112,255] [24,23,22,21,20,19,18,17]) (
 .cond (.t 25) (sq (.reg [
 O 4 (.mov (.c (.b false)))] []) (
 .ret))
 (.skip)))) (
 .reg [
 mM 15 5,
 O 16 (.bin .add (.t 15) (.c (I 1))),
 mM 5 16] [16,15]))
def qka:PF:=⟨2,[.t 4],
 sq (.reg [
 O 4 (.mov (.c (.b false)))] [4]) (
 sq (sq (.reg [
 mM 6 0,
 O 7 (.len false (.t 6)),
 mM 8 1,
 O 9 (.len false (.t 8)),
 O 10 (.bin .neq (.t 7) (.t 9))] [9,8,7,6]) (
 .cond (.t 10) (sq (.reg [
 O 4 (.mov (.c (.b false)))] []) (
 .ret))
 (.skip))) (
 sq (sq (.reg [
 mI 5 0] []) (
 .block 0 (
 .loop [0,1,5] ql5))) (
 sq (.reg [
 O 4 (.mov (.c (.b true)))] []) (
 .ret))))⟩
end Go.Sim
end
section
namespace Go.Sim
def qtd:PF:=⟨0,[.t 0],
 sq (.reg [
 O 0 (.mov (.c (.b false)))] [0]) (
 sq (.reg [
 O 15 (.call 0 1125 []),
 O 16 (.call 0 717 [.t 15,(.c (I 1000)),(.c (I 9)),(.c (I 1)),(.c (I 0))]),
 mM 14 16,
 mX 17 14 0,
 mX 18 14 1,
 mM 1 17,
 mM 2 18] [18,17,14,16,15]) (
 sq (.reg [
 O 20 (.call 0 1125 []),
 O 21 (.call 0 717 [.t 20,(.c (I 1000)),(.c (I 9)),(.c (I 2)),(.c (I 250))]),
 mM 19 21,
 mX 22 19 0,
 mX 23 19 1,
 mM 3 22,
 mM 4 23] [23,22,19,21,20]) (
 sq (.reg [
 O 25 (.call 0 1125 []),
 O 26 (.call 0 633 [.t 25,(.c (I 1000)),(.c (I 9)),(.c (I 1)),(.c (I 0)),(.c (.s [107]))]),
 mM 24 26,
 mX 27 24 0,
 mX 28 24 1,
 mX 29 24 2,
 O 5 (.alloc (K1 10) (.a [I 0,I 0,I 0,I 0,I 0,I 0,.s [],.s [],(.l (K1 3) [] true),(.i .u64 0)])),
 E (.store (K1 10) (.t 5) (.t 27)),
 mM 6 28,
 mM 7 29] [29,28,27,24,26,25]) (
 sq (.reg [
 O 31 (.call 0 1125 []),
 O 32 (.call 0 633 [.t 31,(.c (I 1000)),(.c (I 9)),(.c (I 4)),(.c (I 0)),(.c (.s [107]))]),
 mM 30 32,
 mX 33 30 0,
 mX 34 30 1,
 mX 35 30 2,
 O 8 (.alloc (K1 10) (.a [I 0,I 0,I 0,I 0,I 0,I 0,.s [],.s [],(.l (K1 3) [] true),(.i .u64 0)])),
 E (.store (K1 10) (.t 8) (.t 33)),
 mM 9 34,
 mM 10 35] [8,35,34,33,30,32,31]) (
 sq (.reg [
 O 37 (.call 0 1125 []),
 O 38 (.call 0 717 [.t 37,(.c (I 1000)),(.c (I 4)),(.c (I 1)),(.c (I 0))]),
 mM 36 38,
 mX 39 36 0,
 mX 40 36 1,
 mM 11 39,
 mM 12 40] [11,40,39,36,38,37]) (
 sq (sq (.reg [
 mM 41 2,
 O 42 (.bin .neq (.t 41) (.c (I 0))),
 mM 43 42,
 OG 44 43 false (.mov (.t 4)),
 OG 45 43 false (.bin .neq (.t 44) (.c (I 0))),
 O 46 (.pick (.t 43) (.c (.b true)) (.t 45)),
 mM 47 46,
 OG 48 47 false (.mov (.t 7)),
 OG 49 47 false (.bin .neq (.t 48) (.c (I 0))),
 O 50 (.pick (.t 47) (.c (.b true)) (.t 49)),
 mM 51 50,
 OG 52 51 false (.mov (.t 10)),
 OG 53 51 false (.bin .neq (.t 52) (.c (I 0))),
 O 54 (.pick (.t 51) (.c (.b true)) (.t 53)),
 mM 55 54,
 OG 56 55 false (.mov (.t 9)),
 O 57 (.pick (.t 55) (.c (.b true)) (.t 56)),
 mM 58 57,
 OG 59 58 false (.mov (.t 6)),
 OG 60 58 false (.un .not (.t 59)),
 O 61 (.pick (.t 58) (.c (.b true)) (.t 60)),
 mM 62 61,
 OG 63 62 false (.mov (.t 12)),
 OG 64 62 false (.bin .neq (.t 63) (.c (I 16))),
 O 65 (.pick (.t 62) (.c (.b true)) (.t 64))] [64,12,63,62,61,60,6,59,58,57,9,56,55,54,53,10,52,51,50,49,7,48,47,46,45,4,44,43,42,2,41]) (
 .cond (.t 65) (sq (.reg [
 O 0 (.mov (.c (.b false)))] []) (
 .ret))
 (.skip))) (
 sq (.reg [
 O 66 (.agg [I 0,I 0,.s []] [(0,K0,(.c (I 1000))),(1,K0,(.c (I 30))),(2,K0,(.c (.s [69,85,82])))]),
 O 67 (.agg [I 0,I 0,.s []] [(0,K0,(.c (I 3))),(1,K0,(.c (I (-30)))),(2,K0,(.c (.s [69,85,82])))]),
 O 68 (.bsl (K1 3) (.a [I 0,I 0,.s []]) 2 [(0,(.t 66)),(1,(.t 67))]),
 O 69 (.agg [I 0,I 0,I 0,I 0,I 0,I 0,.s [],.s [],(.l (K1 3) [] true),(.i .u64 0)] [(1,K0,(.c (I 9))),(2,K0,(.c (I 9))),(3,K0,(.c (I 6))),(4,K0,(.c (I 1))),(6,K0,(.c (.s [107]))),(7,K0,(.c (.s [108,111,119]))),(8,K0,(.t 68))]),
 O 13 (.alloc (K1 10) (.a [I 0,I 0,I 0,I 0,I 0,I 0,.s [],.s [],(.l (K1 3) [] true),(.i .u64 0)])),
 E (.store (K1 10) (.t 13) (.t 69))] [69,68,67,66]) (
 sq (.reg [
 mM 70 1,
 O 71 (.agg [.s [],I 0] [(0,K0,(.c (.s [108,111,119]))),(1,K0,(.c (I 30)))]),
 O 72 (.bsl (K1 2) (.a [.s [],I 0]) 1 [(0,(.t 71))]),
 O 73 (.call 0 1124 [.t 70,.t 72]),
 mM 74 73,
 OG 75 74 true (.mov (.t 3)),
 OG 76 74 true (.agg [.s [],I 0] [(0,K0,(.c (.s [101,97,99,104]))),(1,K0,(.c (I 2)))]),
 OG 77 74 true (.bsl (K1 2) (.a [.s [],I 0]) 1 [(0,(.t 76))]),
 OG 78 74 true (.call 0 1124 [.t 75,.t 77]),
 O 79 (.pick (.t 74) (.t 78) (.c (.b false))),
 mM 80 79,
 OG 81 80 true (.bsl (K1 2) (.a [.s [],I 0]) 0 []),
 OG 82 80 true (.mov (.t 1)),
 OG 83 80 true (.app (K1 2) 24 (.t 81) (.t 82)),
 OG 84 80 true (.mov (.t 3)),
 OG 85 80 true (.app (K1 2) 24 (.t 83) (.t 84)),
 OG 86 80 true (.call 0 1126 [.t 85]),
 OG 87 80 true (.bin .eql (.t 86) (.c (I 32))),
 O 88 (.pick (.t 80) (.t 87) (.c (.b false))),
 mM 89 88,
 OG 90 89 true (.load (K1 10) (.t 5)),
 OG 91 89 true (.load (K1 10) (.t 13)),
 OG 92 89 true (.call 0 9 [.t 90,.t 91]),
 O 93 (.pick (.t 89) (.t 92) (.c (.b false))),
 mM 0 93] [93,92,13,91,5,90,89,88,87,86,85,84,83,82,81,80,79,78,77,76,3,75,74,73,72,71,1,70]) (
 .ret)))))))))⟩
end Go.Sim
end
section
open Go.RowKit Go.WideShapes Go.Deep
namespace Go.Sim
inductive Ty where
 |b
 |i (k:IntKind)
 |s
 |e
 |l (k:K) (b:Nat) (ts:List Ty)
def qb1:Nat:=140737488355328
mutual
inductive XL:DV→Prop
 |mk (es:List DV):es.length≤maxLen→(∀e∈es,XE e)→es.length*56≤qb1→XL (.l (some 4) es false)
inductive XE:DV→Prop
 |mk (o n:Int) (s:List UInt8) (a:DV):(Lit.int .i64 o).wf=true→(Lit.int .i64 n).wf=true→s.length≤maxLen→XL a→XE (.a [.i .i64 o,.i .i64 n,.s s,a])
end
mutual
def Has:Ty→DV→Prop
 | .e,x=>XL x
 | .b,x=>∃c,x = .b c
 | .i k,x=>∃n,x = .i k n∧(Lit.int k n).wf=true
 | .s,x=>∃l,x = .s l∧l.length≤maxLen
 | .l k b ts,x=>∃es,x = .l k es false∧es.length≤maxLen∧es.length*b≤qb1∧∀e∈es,∃cs,mkD k cs=some e∧qar ts cs
def qar:List Ty→List DV→Prop
 | [],[]=>True
 |t::ts,x::xs=>Has t x∧qar ts xs
 | _,_=>False
end
def qih (P:Program) (rec:TypeId→Option (List Ty)):List Field→Nat→Nat→Option (List Ty)
 | [],off,n=>if off=n then some [] else none
 |f::fs,off,n=>if f.offset≠off then none else (rec f.type).bind fun a=>if a.length≠P.cellsOf f.type then none else (qih P rec fs (off+a.length) n).bind fun b=>some (a++b)
def tyB (P:Program) (u:TypeId):Option (List Ty):=match P.underlying u with
 |some .bool=>some [.b]
 |some (.int k)=>some [.i k]
 |some .string=>some [.s]
 | _=>none
def qtf:Option (List Ty)→Bool
 |some [.i .i64,.i .i64,.s,.e]=>true
 | _=>false
def qpm (P:Program) (t:TypeId):Bool:=match P.underlying t with
 |some (.slice e)=>decide (kq P e=some (some 4))&&(decide (P.cellsOf e=4∧P.bytesOf e=56)&&match P.underlying e with
  |some (.struct fs)=>qtf (qih P (fun u=>if u=t then some [.e] else tyB P u) fs.toList 0 4)
  | _=>false)
 | _=>false
def qgU (P:Program):Nat→TypeId→Option (List Ty)
 | 0,_=>none
 |n+1,t=>match P.underlying t with
  |some .bool=>some [.b]
  |some (.int k)=>some [.i k]
  |some .string=>some [.s]
  |some (.slice e)=>if qpm P t=true then some [.e] else (kq P e).bind fun k=>(qgU P n e).bind fun ts=>if ts.length=P.cellsOf e∧k.size=ts.length∧0<ts.length then some [.l k (P.bytesOf e) ts] else none
  |some (.struct fs)=>qih P (qgU P n) fs.toList 0 (P.cellsOf t)
  |some (.array m e)=>(qgU P n e).bind fun ts=>if ts.length=P.cellsOf e∧P.cellsOf t=m*P.cellsOf e then some (List.replicate m ts).flatten else none
  | _=>none
def Live (w:World):qah:=fun b o=>∃v,w.cell? ⟨b,o,none⟩=some v
theorem Live.swf (w:World):Swf w (Live w):=fun _ _ h=>h
def R1 (w:World) (t:Ty) (v:Value):Prop:=flat v∧∃x,Has t x∧RelD w (Live w) x v
def CR (w:World):List Ty→List Value→Prop
 | [],[]=>True
 |t::ts,v::vs=>R1 w t v∧CR w ts vs
 | _,_=>False
theorem CR.append {w:World} : ∀{ts:List Ty} {vs:List Value} {us:List Ty} {ws:List Value},CR w ts vs→CR w us ws→CR w (ts++us) (vs++ws)
 | [],[],_,_,_,k=>k
 | _::_,_::_,_,_,h,k=>⟨h.1,h.2.append k⟩
 | [],_::_,_,_,h,_=>h.elim
 | _::_,[],_,_,h,_=>h.elim
theorem CR.len {w:World} : ∀{ts:List Ty} {vs:List Value},CR w ts vs→ts.length=vs.length
 | [],[],_=>rfl
 | _::_,_::_,h=>by simp[h.2.len]
 | [],_::_,h=>h.elim
 | _::_,[],h=>h.elim
theorem CR.flat {w:World} : ∀{ts:List Ty} {vs:List Value},CR w ts vs→∀v∈vs,flat v
 | [],[],_,v,hv=>by cases hv
 | _::_,_::_,h,v,hv=>by
  rcases List.mem_cons.1 hv with rfl|hv
  ·exact h.1.1
  ·exact h.2.flat v hv
 | [],_::_,h,_,_=>h.elim
 | _::_,[],h,_,_=>h.elim
theorem CR.data {w:World} : ∀{ts:List Ty} {vs:List Value},CR w ts vs→∃xs,qar ts xs∧xs.length=vs.length∧∀j (h:j<xs.length) (h':j<vs.length),RelD w (Live w) xs[j] vs[j]
 | [],[],_=>⟨[],by simp[qar],rfl,fun j h=>by cases h⟩
 | _::_,_::_,h=>by
  obtain⟨xs,h1,h2,h3⟩:=h.2.data;obtain⟨-,x,h4,h5⟩:=h.1;refine⟨x::xs,by rw[qar];exact⟨h4,h1⟩,by simp[h2],?_⟩
  intro j hj hj';cases j with
  |zero=>exact h5
  |succ j=>exact h3 j _ _
 | [],_::_,h=>h.elim
 | _::_,[],h=>h.elim
theorem CR.val {w:World} {ts:List Ty} {vs:List Value} (h:CR w ts vs) {k:K} (hk:k.size=ts.length) (c:Nat→Value) (hc : ∀m (h:m<vs.length),c m=vs[m]) :
  ∃xs e,mkD k xs=some e∧qar ts xs∧RelD w (Live w) e (mkV k c):=by
 obtain⟨xs,h1,h2,h3⟩:=h.data;have hl:=h.len
 cases k with
 |none =>
  simp only[K.size] at hk;match xs,vs,h2 with
  | [x],[v],_ =>
   refine⟨[x],x,rfl,h1,?_⟩
   have:=h3 0 (by simp) (by simp)
   simp only[mkV];rw[hc 0 (by simp)]
   exact this
  | [],[],_=>simp at hl;subst hl;simp at hk
  | _::_::_,vs,e=>rw[←hl,←hk] at e;simp at e
 |some n =>
  simp only[K.size] at hk;have e:(List.range n).map c=vs:=by
   apply List.ext_getElem
   ·simp;omega
   ·intro m hm hm';simp[hc m hm']
  refine⟨xs,.a xs,by simp[mkD];omega,h1,?_⟩
  simp only[mkV,e];exact .a xs vs h2 h.flat h3
section
variable {H : Type} {enc : TypeId × Value → H} {P : Program} {w : World} {sp : Nat → Bool} {held : Bool}
def Wts (P:Program) (t:TypeId) (d:DataW H):Prop:=∀n∈d.weights P t,n≤reachBytes
theorem qpu {e:TypeId} : ∀{l:List (DataW H)},(∀n∈DataW.weightsAll P e l,n≤reachBytes)→∀d∈l,Wts P e d
 | [],_,d,hd=>by cases hd
 |x::r,h,d,hd=>by
  simp only[DataW.weightsAll,List.mem_append] at h;rcases List.mem_cons.1 hd with rfl|hd
  ·exact fun n hn=>h n (.inl hn)
  ·exact qpu (fun n hn=>h n (.inr hn)) d hd
theorem qqv : ∀{ts:List TypeId} {l:List (DataW H)},(∀n∈DataW.weightsEach P ts l,n≤reachBytes)→∀i (h:i<ts.length) (h':i<l.length),Wts P ts[i] l[i]
 | [],_,_,i,h,_=>by cases h
 | _::_,[],_,i,_,h'=>by cases h'
 |t::ts,d::r,h,i,hi,hi'=>by
  simp only[DataW.weightsEach,List.mem_append] at h;cases i with
  |zero=>exact fun n hn=>h n (.inl hn)
  |succ i=>exact qqv (fun n hn=>h n (.inr hn)) i (by simpa using hi) (by simpa using hi')
theorem qBk {t e:TypeId} {el sl:List (DataW H)} (hu:P.underlying t=some (.slice e)) (h:Wts P t (.slice el sl)):el.length*P.bytesOf e≤reachBytes∧∀d∈el,Wts P e d:=by
 unfold Wts at h;simp only[DataW.weights,hu,List.mem_cons,List.mem_append] at h;refine⟨Nat.le_trans (zzh _ (Nat.le_add_right _ _)) (h _ (.inl rfl)),fun d hd=>qpu (fun n hn=>h n (.inr (.inl hn))) d hd⟩
theorem qvi {t:TypeId} {fs:Array Field} {l:List (DataW H)} (hu:P.underlying t=some (.struct fs)) (h:Wts P t (.agg l)) (i:Nat) (hi:i<fs.size) (hi':i<l.length):Wts P fs[i].type l[i]:=by
 unfold Wts at h;simp only[DataW.weights,hu] at h
 have:=qqv h i (by simpa using hi) hi'
 simpa using this
theorem qzF {t e:TypeId} {m:Nat} {l:List (DataW H)} (hu:P.underlying t=some (.array m e)) (h:Wts P t (.agg l)) : ∀d∈l,Wts P e d:=by
 unfold Wts at h;simp only[DataW.weights,hu] at h;exact qpu h
theorem qoZ {rec:TypeId→Option (List Ty)} {cs:List Value} {n:Nat} (hn:cs.length=n) : ∀(fs:List Field) (off:Nat) (ts:List Ty),off≤n→qih P rec fs off n=some ts →
  (∀f∈fs,∀ts',rec f.type=some ts'→CR w ts' ((cs.drop f.offset).take (P.cellsOf f.type)))→CR w ts (cs.drop off)
 | [],off,ts,ho,h,_=>by
  simp only[qih] at h;split at h
  ·cases h;rw[List.drop_eq_nil_iff.2 (by omega)]
   trivial
  ·cases h
 |f::fs,off,ts,ho,h,hf=>by
  simp only[qih] at h;split at h
  ·cases h
  rename_i h1;have h1:f.offset=off:=by simpa using h1
  obtain⟨a,ha,h⟩:=zza.1 h;split at h
  ·cases h
  rename_i h2;have h2:a.length=P.cellsOf f.type:=by simpa using h2
  obtain⟨b,hb,h⟩:=zza.1 h;cases h;have k1:=hf f (zzr ..) a ha
  have k1l:=k1.len
  rw[h1,←h2] at k1;have hle:off+a.length≤n:=by
   rw[List.length_take,List.length_drop,h1] at k1l;omega
  have k2:=qoZ hn fs (off+a.length) b hle hb (fun g hg=>hf g (zzi _ hg))
  have:=k1.append k2
  rwa [←List.drop_drop,List.take_append_drop] at this
theorem qtY {cs:List Value} {c:Nat} {ts:List Ty} (ht:ts.length=c) : ∀(m i:Nat),cs.length=(i+m)*c→(∀j,i≤j→j<i+m→CR w ts ((cs.drop (j*c)).take c))→CR w (List.replicate m ts).flatten (cs.drop (i*c))
 | 0,i,hl,_=>by
  rw[List.drop_eq_nil_iff.2 (by rw[hl];simp)]
  trivial
 |m+1,i,hl,h=>by
  have k1:=h i (zzt _) (by omega)
  have k2:=qtY ht m (i+1) (by rw[hl];congr 1;omega) (fun j hj hj'=>h j (by omega) (by omega))
  have:=k1.append k2
  rw[Nat.succ_mul,←List.drop_drop,List.take_append_drop] at this;simpa[List.replicate_succ] using this
theorem qu5 {t e:TypeId} {fuel:Nat} {cs:List Value} {x:DataW H×List MemPlace} {k:K} {c:Nat} {Pe:DV→Prop} (hu:P.underlying t=some (.slice e)) (hd:DataW.trod enc P w 0 sp held fuel t cs=some x) (hc1:c=P.cellsOf e) (hc2:k.size=c) (hc3:0<c) (hw:Wts P t x.1)
  (hel : ∀n cs' x',n<fuel→DataW.trod enc P w 0 sp held n e cs'=some x'→Wts P e x'.1→∃us,us.length=c∧CR w us cs'∧∀xs ee,mkD k xs=some ee→qar us xs→Pe ee) :
  ∃v E,cs=[v]∧flat v∧RelD w (Live w) (.l k E false) v∧E.length≤maxLen∧E.length*P.bytesOf e≤qb1∧∀e∈E,Pe e:=by
 rcases DataW.trod_slice hu hd with ⟨rfl,-⟩|⟨a,len,cap,elems,rest,n,rfl,rfl,hxe,hb,hl,hm,hlen,hx,-,-⟩
 ·refine⟨_,[],rfl,rfl,?_,by simp,by simp,fun e he=>by cases he⟩
  exact .l k [] false none 0 0 0 (fun _ _=>.bool false) (zzt _) (fun h=>by cases h) (fun h=>by cases h) (fun j h=>by cases h) (fun j h=>by cases h)
 ·rw[hxe] at hw;obtain⟨hw1,hw2⟩:=qBk hu hw;have hs : ∀i,i<len→∃V:(Nat→Value)×DV,(∀q,q<k.size→w.cell? (a.add (i*P.cellsOf e+q))=some (V.1 q)∧flat (V.1 q))∧Pe V.2∧RelD w (Live w) V.2 (mkV k V.1):=by
   intro i hi;have h0:=hx i hi
   rw[zze (by omega)] at h0
   obtain⟨cs',h1,h2⟩:=zza.1 h0;obtain⟨us,hus,h3,hpe⟩:=hel n cs' _ (Nat.lt_succ_self n) h2 (hw2 _ (List.mem_map.2 ⟨_,zzs _,rfl⟩));obtain⟨-,h4,h5⟩:=World.cells?_some h1;obtain⟨xs,ee,e1,e2,e3⟩:=h3.val (k:=k) (by omega) (fun q=>cs'.getD q (.bool false)) (fun q hq=>by simp[hq])
   have hul:=h3.len
   refine⟨(fun q=>cs'.getD q (.bool false),ee),?_,hpe xs ee e1 e2,e3⟩
   intro q hq;have hq':q<cs'.length:=by omega
   have h6:=h5 q (by omega)
   rw[zze hq'] at h6;have e7:(cs'.getD q (.bool false))=cs'[q]:=by simp[hq']
   refine⟨?_,?_⟩
   ·rw[show (a.add (i*P.cellsOf e+q))=(a.add (i*P.cellsOf e)).add q by by_cases g1:i*P.cellsOf e=0<;>by_cases g2:q=0<;>simp[Addr.add,g1,g2,Nat.add_assoc]]
    simp only[e7];exact h6
   ·show flat (cs'.getD q (.bool false))
    rw[e7];exact h3.flat _ (zzs _)
  have:Inhabited ((Nat→Value)×DV):=⟨(fun _=>.bool false,.np)⟩
  obtain⟨V,hV⟩:=choose_lt hs;obtain⟨E,hE,hEV⟩ : ∃E:List DV,E.length=len∧∀i (h:i<E.length),E[i]=(V i).2:=⟨(List.range len).map fun i=>(V i).2,by simp,fun i h=>by simp⟩
  subst hE;have hk0:0<k.size:=by omega
  have sp0 : ∀j,j<E.length→a.spot=none:=by
   intro j hj
   have:=World.cell?_spot ((hV 0 (by omega)).1 0 hk0).1
   simpa[Addr.add] using this
  refine⟨_,E,rfl,rfl,?_,by omega,by simp only[zzo,hlen] at hw1;unfold qb1;unfold reachBytes at hw1;omega,?_⟩
  ·refine RelD.l (w:=w) (S:=Live w) k E false (some a) cap a.block a.off (fun j=>(V j).1) hl (fun h=>by cases h) ?_ ?_ ?_
   ·intro h0
    have:=sp0 0 h0
    cases a;simp_all
   ·intro j hj q hq;obtain⟨g1,g2⟩:=(hV j hj).1 q hq;have hs0:=sp0 j hj
    have e8:a.add (j*P.cellsOf e+q)=⟨a.block,a.off+j*k.size+q,none⟩:=by
     rw[←hc1,←hc2];obtain⟨ab,ao,as0⟩:=a;simp only at hs0;subst hs0;by_cases g:j*k.size+q=0<;>simp[Addr.add,g,Nat.add_assoc]
     omega
    rw[e8] at g1;exact⟨g1,⟨_,g1⟩,g2⟩
   ·intro j hj;rw[hEV j hj];exact (hV j hj).2.2
  ·intro ee he;obtain⟨i,hi,rfl⟩:=List.getElem_of_mem he;rw[hEV i hi];exact (hV i hi).2.1
theorem qEe {u:TypeId} {fuel:Nat} {cs:List Value} {x:DataW H×List MemPlace} {ts:List Ty} (hd:DataW.trod enc P w 0 sp held fuel u cs=some x) (h:tyB P u=some ts):CR w ts cs:=by
 unfold tyB at h;split at h
 ·rename_i hu;cases h;obtain⟨b,rfl,-⟩:=DataW.trod_bool hu hd;exact⟨⟨rfl,.b b,by simp[Has],.b b⟩,trivial⟩
 ·rename_i k hu;cases h;obtain⟨m,rfl,-,hw⟩:=DataW.trod_int hu hd;exact⟨⟨rfl,.i k m,by simp[Has,hw],.i k m⟩,trivial⟩
 ·rename_i hu;cases h;obtain⟨s,rfl,-,hs⟩:=DataW.trod_string hu hd;exact⟨⟨rfl,.s s.data.toList,by simpa[Has] using hs,.s _ s rfl⟩,trivial⟩
 ·cases h
theorem qyi {xs:List DV} {ee:DV} (h1:mkD (some 4) xs=some ee) (h2:qar [.i .i64,.i .i64,.s,.e] xs):XE ee:=by
 match xs,h2 with
 | [x1,x2,x3,x4],h2 =>
  simp only[qar,Has,and_true] at h2;obtain⟨⟨o,rfl,ho⟩,⟨n,rfl,hn⟩,⟨s,rfl,hs⟩,h4⟩:=h2;simp only[mkD,zzn,List.length_nil,if_true,zzb] at h1;subst h1;exact .mk o n s x4 ho hn hs h4
 | [],h2=>simp[qar] at h2
 | [_],h2=>simp[qar] at h2
 | [_,_],h2=>simp[qar] at h2
 | [_,_,_],h2=>simp[qar] at h2
 | _::_::_::_::_::_,h2=>simp[qar] at h2
theorem qzh {t:TypeId} (ht:qpm P t=true) : ∀(m fuel:Nat) (cs:List Value) (x:DataW H×List MemPlace),fuel≤m→DataW.trod enc P w 0 sp held fuel t cs=some x→Wts P t x.1→CR w [.e] cs:=by
 have ht0:=ht
 unfold qpm at ht;split at ht;case h_2=>cases ht
 rename_i e hu;simp only[zzf,zzq] at ht;obtain⟨hk,⟨hc,hb⟩,ht⟩:=ht;split at ht;case h_2=>cases ht
 rename_i fs hf;obtain⟨ts,hts,h4⟩ : ∃ts,qih P (fun u=>if u=t then some [.e] else tyB P u) fs.toList 0 4=some ts∧ts=[.i .i64,.i .i64,.s,.e]:=by
  unfold qtf at ht;split at ht
  ·rename_i hq;exact⟨_,hq,rfl⟩
  ·cases ht
 subst h4;intro m;induction m with
 |zero =>
  intro fuel cs x hm hd _;obtain rfl:fuel=0:=by omega
  simp[DataW.trod] at hd
 |succ m ih =>
  intro fuel cs x hm hd hw;obtain⟨v,E,rfl,hfl,hr,hlen,hlb,hE⟩:=qu5 (k:=some 4) (c:=4) (Pe:=XE) hu hd hc.symm rfl (by decide) hw (fun n cs' x' hn hd' hw'=>by
   refine⟨_,rfl,?_,fun xs ee h1 h2=>qyi h1 h2⟩
   obtain⟨xs,n',rfl,hxe,hl,hl2,hx⟩:=DataW.trod_struct hf hd';rw[hxe] at hw'
   have:=qoZ (P:=P) (w:=w) (rec:=fun u=>if u=t then some [.e] else tyB P u) (hl.trans hc) fs.toList 0 _ (Nat.zero_le _) hts (fun f hf' ts' hts'=>by
    obtain⟨i,hi,rfl⟩:=List.getElem_of_mem hf';have hi':i<fs.size:=by simpa using hi
    have h5:=hx i fs[i] (by simp[hi'])
    rw[zze (by omega)] at h5
    simp only[Array.getElem_toList] at hts'⊢;split at hts'
    ·rename_i hft;cases hts';rw[hft] at h5⊢;exact ih n' _ _ (by omega) h5 (by have:=qvi hf hw' i hi' (by simp;omega);rw[hft] at this;simpa using this)
    ·exact qEe h5 hts')
   simpa using this)
  exact⟨⟨hfl,_,by rw[Has];exact .mk E hlen hE (by rw[←hb];exact hlb),hr⟩,trivial⟩
theorem qxf (n:Nat) : ∀{fuel:Nat} {t:TypeId} {cs:List Value} {x:DataW H×List MemPlace} {ts:List Ty},DataW.trod enc P w 0 sp held fuel t cs=some x→Wts P t x.1→qgU P n t=some ts→CR w ts cs:=by
 induction n with
 |zero=>intro fuel t cs x ts _ _ h;cases h
 |succ n ih =>
  intro fuel t cs x ts hd hw h;simp only[qgU] at h;split at h
  ·rename_i hu;cases h;obtain⟨b,rfl,-⟩:=DataW.trod_bool hu hd;exact⟨⟨rfl,.b b,by simp[Has],.b b⟩,trivial⟩
  ·rename_i k hu;cases h;obtain⟨m,rfl,-,hw⟩:=DataW.trod_int hu hd;exact⟨⟨rfl,.i k m,by simp[Has,hw],.i k m⟩,trivial⟩
  ·rename_i hu;cases h;obtain⟨s,rfl,-,hs⟩:=DataW.trod_string hu hd;exact⟨⟨rfl,.s s.data.toList,by simpa[Has] using hs,.s _ s rfl⟩,trivial⟩
  ·rename_i e hu;split at h
   ·rename_i hX;cases h;exact qzh hX fuel fuel cs x (zzt _) hd hw
   obtain⟨k,hk,h⟩:=zza.1 h;obtain⟨us,hus,h⟩:=zza.1 h;split at h
   ·rename_i hc;cases h;obtain⟨hc1,hc2,hc3⟩:=hc;obtain⟨v,E,rfl,hfl,hr,hlen,hlb,hE⟩:=qu5 (k:=k) (c:=us.length) (Pe:=fun ee=>∃cs,mkD k cs=some ee∧qar us cs) hu hd hc1 hc2 hc3 hw (fun n' cs' x' _ hd' hw'=>⟨us,rfl,ih hd' hw' hus,fun xs ee h1 h2=>⟨xs,h1,h2⟩⟩)
    refine⟨⟨hfl,_,?_,hr⟩,trivial⟩;rw[Has];exact⟨E,rfl,hlen,hlb,hE⟩
   ·cases h
  ·rename_i fs hu;obtain⟨xs,m,-,hxe,hl,hl2,hx⟩:=DataW.trod_struct hu hd;rw[hxe] at hw
   have:=qoZ (P:=P) (w:=w) (rec:=qgU P n) hl fs.toList 0 ts (Nat.zero_le _) h (fun f hf ts' hts=>by
    obtain⟨i,hi,rfl⟩:=List.getElem_of_mem hf;have hi':i<fs.size:=by simpa using hi
    have:=hx i fs[i] (by simp[hi'])
    rw[zze (by omega)] at this
    simpa using ih this (by have:=qvi hu hw i hi' (by simp;omega);simpa using this) hts)
   simpa using this
  ·rename_i m e hu;obtain⟨us,hus,h⟩:=zza.1 h;split at h
   ·rename_i hc;cases h;obtain⟨xs,m',-,hxe,hl,hl2,hx⟩:=DataW.trod_array hu hd;rw[hxe] at hw
    have:=qtY (w:=w) (cs:=cs) hc.1 m 0 (by rw[hl,hc.2];simp) (fun j _ hj=>by
     have:=hx j (by omega)
     rw[zze (by omega)] at this
     exact ih this (qzF hu hw _ (List.mem_map.2 ⟨_,zzs _,rfl⟩)) hus)
    simpa using this
   ·cases h
  ·cases h
end
end Go.Sim
end
section
open Go.RowKit
namespace Go.Sim
section
variable {P : Program} {W : World}
theorem qq4 {n:String} {d:DataW Unit} : ∀{l:List (String×DataW Unit)} {ps:List MemPlace},DataW.LaidVars P W l ps→(n,d)∈l →
  ∃g t cs fuel p,P.globalNamed n=some g∧(P.globals[g]?).map (·.type)=some t∧W.var? P n=some cs∧DataW.trod (fun _=>()) P W 0 (fun _=>true) false fuel t cs.toList=some (d,p)∧∀x∈MemPlace.row ⟨g,0,none⟩ cs.size,x∈ps
 | [],_,_,h=>by cases h
 | (m,e)::r,ps,h,hm=>by
  obtain⟨g,t,cs,fuel,p,q,h1,h2,h3,h4,h5,rfl⟩:=h;rcases List.mem_cons.1 hm with h|h
  ·cases h;exact⟨g,t,cs,fuel,p,h1,h2,h3,h4,fun x hx=>List.mem_append_left _ (List.mem_append_left _ hx)⟩
  ·obtain⟨g',t',cs',fuel',p',a1,a2,a3,a4,a5⟩:=qq4 h5 h;exact⟨g',t',cs',fuel',p',a1,a2,a3,a4,fun x hx=>List.mem_append_right _ (a5 x hx)⟩
theorem qu3 {laid:List (String×DataW Unit)} (h:laidMet P laid W) {n:String} {d:DataW Unit} (hm:(n,d)∈laid) {g:Nat} (hg:P.globalNamed n=some g) {t:TypeId} (ht:(P.globals[g]?).map (·.type)=some t) :
  ∃(cs:Array Value) (fuel:Nat) (p:List MemPlace),DataW.trod (fun _=>()) P W 0 (fun _=>true) false fuel t cs.toList=some (d,p)∧(0<cs.size→∃e,W.shape? g=some (e,cs.size))∧∀j (hj:j<cs.size),W.cell? ⟨g,j,none⟩=some cs[j]:=by
 obtain⟨ps,h1,-,h3⟩:=h;obtain⟨g',t',cs,fuel,p,a1,a2,a3,a4,a5⟩:=qq4 h1 hm;obtain rfl:=Option.some.inj (hg.symm.trans a1);obtain rfl:=Option.some.inj (ht.symm.trans a2);have hheap : ∃e fz,W.heap[g]? = some (.cells cs e fz):=by
  unfold World.var? at a3;rw[hg] at a3;simp only[Option.bind_some] at a3;split at a3
  ·rename_i cs' e fz hw;cases a3;exact⟨e,fz,hw⟩
  ·cases a3
 obtain⟨e,fz,hw⟩:=hheap;refine⟨cs,fuel,p,a4,?_,?_⟩
 ·intro hp;obtain⟨⟨c,u,hc⟩,-⟩:=h3 g 0 (a5 _ (by unfold MemPlace.row;exact List.mem_map.2 ⟨0,List.mem_range.2 hp,rfl⟩))
  rw[hw] at hc;cases hc;exact⟨e,by simp[World.shape?,hw]⟩
 ·intro j hj;simp[World.cell?,hw,hj]
theorem qDH {S:qah} (hS:S=Live W) {g:Nat} {zs:List (IntKind×Int)} (hz:0<zs.length) {cs:Array Value} (hl:cs.toList=zs.map fun z=>Value.int z.1 z.2) (hs:0<cs.size→∃e,W.shape? g=some (e,cs.size)) (hc : ∀j (hj:j<cs.size),W.cell? ⟨g,j,none⟩=some cs[j]) :
  (∃e,W.shape? g=some (e,zs.length))∧∃f,At W S g 0 zs.length f∧RelD W S (.a (zs.map fun z=>.i z.1 z.2)) (mkV (some zs.length) f):=by
 subst hS;have hn:cs.size=zs.length:=by rw[←Array.length_toList,hl,zzo]
 have hget : ∀j (hj:j<zs.length),cs[j]'(by omega) = .int zs[j].1 zs[j].2:=fun j hj=>by
  have h1:cs.toList[j]'(by rw[Array.length_toList];omega)=cs[j]'(by omega):=Array.getElem_toList _
  rw[←h1];simp only[hl,List.getElem_map]
 refine⟨?_,fun j=>cs.getD j (.bool false),?_,?_⟩
 ·obtain⟨e,he⟩:=hs (by omega)
  exact⟨e,by rw[he,hn]⟩
 ·intro j hj;have h1:=hc j (by omega)
  have h2:cs.getD j (.bool false)=cs[j]'(by omega):=by simp[Array.getD,show j<cs.size by omega]
  refine⟨by rw[Nat.zero_add];show _=some (cs.getD j (.bool false));rw[h2];exact h1,⟨_,by rw[Nat.zero_add];exact h1⟩,?_⟩
  show flat (cs.getD j (.bool false))
  rw[h2,hget j hj];rfl
 ·simp only[mkV];refine RelD.a _ _ (by simp) ?_ ?_
  ·intro v hv;obtain⟨j,hj,rfl⟩:=List.mem_map.1 hv;have hj:=List.mem_range.1 hj
   have h2:cs.getD j (.bool false)=cs[j]'(by omega):=by simp[Array.getD,show j<cs.size by omega]
   show flat (cs.getD j (.bool false))
   rw[h2,hget j hj];rfl
  ·intro j hj hj';simp only[zzo] at hj;simp only[List.getElem_map,List.getElem_range];have h2:cs.getD j (.bool false)=cs[j]'(by omega):=by simp[Array.getD,show j<cs.size by omega]
   rw[h2,hget j hj];exact .i _ _
theorem qsV {laid:List (String×DataW Unit)} (h:laidMet P laid W) {n:String} {k:IntKind} {zs:List Int} (hm:(n,.agg (zs.map fun z=>.lit (.int k z)))∈laid) {g:Nat} (hg:P.globalNamed n=some g) {t:TypeId} (ht:(P.globals[g]?).map (·.type)=some t)
  {m:Nat} {e:TypeId} (hu:P.underlying t=some (.array m e)) (he:P.underlying e=some (.int k)) (hc:P.cellsOf e=1) (hct:P.cellsOf t=m) (hz:0<zs.length) :
  (∃e,W.shape? g=some (e,zs.length))∧∃f,At W (Live W) g 0 zs.length f∧RelD W (Live W) (.a (zs.map fun z=>.i k z)) (mkV (some zs.length) f):=by
 obtain⟨cs,fuel,p,h1,h2,h3⟩:=qu3 h hm hg ht;obtain⟨xs,m',rfl,hx,hl,hxl,hel⟩:=DataW.trod_array hu h1;simp only[zzc,DataW.agg.injEq] at hx;have hzl:zs.length=m:=by
  have:=congrArg List.length hx.1
  simp only[zzo] at this;omega
 have hcs:cs.toList=(zs.map fun z=>(k,z)).map fun z=>Value.int z.1 z.2:=by
  apply List.ext_getElem
  ·simp only[zzo];rw[hl,hct,hzl]
  ·intro j hj hj';simp only[zzo] at hj';have hjm:j<m:=by omega
   have h4:=hel j hjm
   rw[hc,Nat.mul_one,zze (by omega)] at h4
   obtain⟨n',e1,e2,-⟩:=DataW.trod_int he h4;have e3:cs.toList[j] = .int k n':=by
    have:(cs.toList.drop j).take 1=[cs.toList[j]]:=by
     rw[List.drop_eq_getElem_cons hj];rfl
    rw[this] at e1;exact (List.cons.inj e1).1
   rw[e3];have e4:(xs.map (·.1))[j]'(by simp;omega) = .lit (.int k n'):=by simp only[List.getElem_map];rw[e2]
   have e5:(zs.map fun z=>(DataW.lit (.int k z):DataW Unit))[j]'(by simp;omega) = .lit (.int k n'):=by
    rw[←e4];congr 1;exact hx.1
   simp only[List.getElem_map] at e5;have e6:zs[j]=n':=by simpa using e5
   simp only[List.getElem_map];rw[e6]
 have:=qDH (W:=W) rfl (g:=g) (zs:=zs.map fun z=>(k,z)) (by simpa using hz) hcs h2 h3
 simpa only[zzo,List.map_map,Function.comp_def] using this
noncomputable def qlP (gl:List (Nat×Nat)) (g:Nat):Nat:=qb4 (fun x=>x) (g+100) gl g
theorem qvI {f:FuncId→Option (Nat×Nat)} {gl:List (Nat×Nat)} {gs:List (Nat×DV×K)} {S:qah} (hlow:(gs.all fun x=>Nat.blt x.1 100)=true)
  (h : ∀x∈gl,∀v k,qb4 some none gs x.2=some (v,k)→(∃e,W.shape? x.1=some (e,k.size))∧∃c,At W S x.1 0 k.size c∧RelD W S v (mkV k c)):GOK ⟨f,qlP gl⟩ (qb4 some none gs) W S:=by
 intro g v k hg;change qb4 some none gs (qlP gl g)=_ at hg
 unfold qlP at hg;rcases qhw (f:=fun x=>x) (z:=g+100) (l:=gl) (n:=g) with h1|⟨x,h1,h2⟩
 ·exfalso
  rw[h1] at hg;rcases qhw (f:=some) (z:=none) (l:=gs) (n:=g+100) with h3|⟨y,h3,-⟩
  ·rw[h3] at hg;cases hg
  ·have:=List.all_eq_true.1 hlow _ h3
   have:=Nat.le_of_ble_eq_true this
   omega
 ·rw[h2] at hg;exact h (g,x) h1 v k hg
end
end Go.Sim
end
section
namespace Go.Sim
def qck:PC→List (List Nat)→PC×List (List Nat)
 | .seq a b,l=>(.seq (qck a l).1 (qck b (qck a l).2).1,(qck b (qck a l).2).2)
 | .cond c x y,l=>(.cond c (qck x l).1 (qck y (qck x l).2).1,(qck y (qck x l).2).2)
 | .block id x,l=>(.block id (qck x l).1,(qck x l).2)
 | .loop _ x,m::l=>(.loop m (qck x l).1,(qck x l).2)
 | .rng f g ps _ a x,m::l=>(.rng f g ps m (qck a l).1 (qck x (qck a l).2).1,(qck x (qck a l).2).2)
 |c,l=>(c,l)
def qiq (F:PF) (l:List (List Nat)):PF:=⟨F.nargs,F.results,(qck F.body l).1⟩
end Go.Sim
end
