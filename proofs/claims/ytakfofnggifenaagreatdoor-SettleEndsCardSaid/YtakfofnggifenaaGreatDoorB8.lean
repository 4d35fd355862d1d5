/- Part 8 of the proof: CbC25, CbC25E, CbC25N, CbC29S, CbC29L, Cb29Et, CbSimG, CbSimLd. -/
import Derived.Test.YtakfofnggifenaaGreatDoorB2
import Derived.Test.YtakfofnggifenaaGreatDoorB6
import Derived.Test.YtakfofnggifenaaGreatDoorB7
import Derived.Test.YtakfofnggifenaaGreatDoorB5
import Derived.ChangeArms
import Derived.OpenShut
import Derived.Deep.Slices
import Derived.WideShapes
import Derived.ProofKit
import Derived.LaidMore
section
namespace Go.Sim
end Go.Sim
end
section
namespace Go.Sim
def F66 : PF := ⟨1, [.t 2],
 sq (.reg [
 O 2 (.mov (.c (.b false)))] [2]) (
 sq (.reg [
 O 3 (.mov (.t 0)),
 O 4 (.bin .rem (.t 3) (.c (I 4))),
 O 5 (.bin .eql (.t 4) (.c (I 0))),
 O 6 (.mov (.t 5)),
 OG 7 6 true (.mov (.t 0)),
 OG 8 6 true (.bin .rem (.t 7) (.c (I 100))),
 OG 9 6 true (.bin .neq (.t 8) (.c (I 0))),
 OG 10 6 true (.mov (.t 9)),
 OG 11 10 false (.mov (.t 0)),
 OG 12 10 false (.bin .rem (.t 11) (.c (I 400))),
 OG 13 10 false (.bin .eql (.t 12) (.c (I 0))),
 OG 14 6 true (.pick (.t 10) (.c (.b true)) (.t 13)),
 O 15 (.pick (.t 6) (.t 14) (.c (.b false))),
 O 2 (.mov (.t 15))] [15, 14, 13, 12, 11, 10, 9, 8, 7, 6, 5, 4, 0, 3]) (
 .ret))⟩
def F544 : PF := ⟨1, [.t 2],
 sq (.reg [
 O 2 (.mov (.c (.b false)))] [2]) (
 sq (.reg [
 O 3 (.mov (.t 0)),
 O 4 (.bin .geq (.t 3) (.c (I 0))),
 O 5 (.mov (.t 4)),
 OG 6 5 true (.mov (.t 0)),
 OG 7 5 true (.bin .leq (.t 6) (.c (I 73048))),
 O 8 (.pick (.t 5) (.t 7) (.c (.b false))),
 O 2 (.mov (.t 8))] [8, 7, 6, 5, 4, 0, 3]) (
 .ret))⟩
def L1045_0 : PC :=
 sq (sq (.reg [
 O 10 (.mov (.t 0)),
 O 11 (.mov (.t 5)),
 O 12 (.call 0 1050 [(.t 11)]),
 O 13 (.bin .geq (.t 10) (.t 12))] [12, 11, 10]) (
 .cond (.t 13) (.skip)
 (.exit 0))) (
 .block 1 (
 sq (.reg [
 O 14 (.mov (.t 0)),
 O 15 (.mov (.t 5)),
 O 16 (.call 0 1050 [(.t 15)]),
 O 17 (.bin .sub (.t 14) (.t 16)),
 O 0 (.mov (.t 17))] [17, 16, 15, 14]) (
 .reg [
 O 18 (.mov (.t 5)),
 O 19 (.bin .add (.t 18) (.c (I 1))),
 O 5 (.mov (.t 19))] [19, 18])))
def L1045_1 : PC :=
 sq (sq (.reg [
 O 20 (.mov (.t 0)),
 O 21 (.mov (.t 5)),
 O 22 (.mov (.t 6)),
 O 23 (.call 0 1051 [(.t 21), (.t 22)]),
 O 24 (.bin .geq (.t 20) (.t 23))] [23, 22, 21, 20]) (
 .cond (.t 24) (.skip)
 (.exit 2))) (
 .block 3 (
 sq (.reg [
 O 25 (.mov (.t 0)),
 O 26 (.mov (.t 5)),
 O 27 (.mov (.t 6)),
 O 28 (.call 0 1051 [(.t 26), (.t 27)]),
 O 29 (.bin .sub (.t 25) (.t 28)),
 O 0 (.mov (.t 29))] [29, 28, 27, 26, 25]) (
 .reg [
 O 30 (.mov (.t 6)),
 O 31 (.bin .add (.t 30) (.c (I 1))),
 O 6 (.mov (.t 31))] [31, 30])))
def F1045 : PF := ⟨1, [.t 2, .t 3, .t 4],
 sq (.reg [
 O 2 (.mov (.c (I 0))),
 O 3 (.mov (.c (I 0))),
 O 4 (.mov (.c (I 0)))] [4, 3, 2]) (
 sq (sq (.reg [
 O 7 (.mov (.t 0)),
 O 8 (.call 0 544 [(.t 7)]),
 O 9 (.un .not (.t 8))] [8, 7]) (
 .cond (.t 9) (sq (.reg [
 O 2 (.mov (.c (I 0))),
 O 3 (.mov (.c (I 0))),
 O 4 (.mov (.c (I 0)))] []) (
 .ret))
 (.skip))) (
 sq (.reg [
 O 5 (.mov (.c (I 2000))),
 O 6 (.mov (.c (I 1)))] []) (
 sq (.block 0 (
 .loop [0, 5, 6] L1045_0)) (
 sq (.block 2 (
 .loop [0, 5, 6] L1045_1)) (
 sq (.reg [
 O 32 (.mov (.t 5)),
 O 33 (.mov (.t 6)),
 O 34 (.mov (.t 0)),
 O 35 (.bin .add (.t 34) (.c (I 1))),
 O 2 (.mov (.t 32)),
 O 3 (.mov (.t 33)),
 O 4 (.mov (.t 35))] [35, 0, 34, 6, 33, 5, 32]) (
 .ret))))))⟩
def F1050 : PF := ⟨1, [.t 2],
 sq (.reg [
 O 2 (.mov (.c (I 0)))] [2]) (
 sq (sq (.reg [
 O 3 (.mov (.t 0)),
 O 4 (.call 0 1060 [(.t 3)])] [0, 3]) (
 .cond (.t 4) (sq (.reg [
 O 2 (.mov (.c (I 366)))] []) (
 .ret))
 (.skip))) (
 sq (.reg [
 O 2 (.mov (.c (I 365)))] []) (
 .ret)))⟩
def F1051 : PF := ⟨2, [.t 4],
 sq (.reg [
 O 4 (.mov (.c (I 0)))] [4]) (
 sq (sq (.reg [
 O 5 (.mov (.t 1))] [1]) (
 .block 0 (
 sq (sq (.reg [
 O 7 (.bin .eql (.t 5) (.c (I 1))),
 O 6 (.mov (.t 7))] [7]) (
 .cond (.t 6) (.skip)
 (sq (.reg [
 O 8 (.bin .eql (.t 5) (.c (I 3))),
 O 6 (.mov (.t 8))] [8]) (
 .cond (.t 6) (.skip)
 (sq (.reg [
 O 9 (.bin .eql (.t 5) (.c (I 5))),
 O 6 (.mov (.t 9))] [9]) (
 .cond (.t 6) (.skip)
 (sq (.reg [
 O 10 (.bin .eql (.t 5) (.c (I 7))),
 O 6 (.mov (.t 10))] [10]) (
 .cond (.t 6) (.skip)
 (sq (.reg [
 O 11 (.bin .eql (.t 5) (.c (I 8))),
 O 6 (.mov (.t 11))] [11]) (
 .cond (.t 6) (.skip)
 (sq (.reg [
 O 12 (.bin .eql (.t 5) (.c (I 10))),
 O 6 (.mov (.t 12))] [12]) (
 .cond (.t 6) (.skip)
 (.reg [
 O 13 (.bin .eql (.t 5) (.c (I 12))),
 O 6 (.mov (.t 13))] [13]))))))))))))) (
 .cond (.t 6) (sq (.reg [
 O 4 (.mov (.c (I 31)))] []) (
 .ret))
 (sq (sq (.reg [
 O 15 (.bin .eql (.t 5) (.c (I 4))),
 O 14 (.mov (.t 15))] [15]) (
 .cond (.t 14) (.skip)
 (sq (.reg [
 O 16 (.bin .eql (.t 5) (.c (I 6))),
 O 14 (.mov (.t 16))] [16]) (
 .cond (.t 14) (.skip)
 (sq (.reg [
 O 17 (.bin .eql (.t 5) (.c (I 9))),
 O 14 (.mov (.t 17))] [17]) (
 .cond (.t 14) (.skip)
 (.reg [
 O 18 (.bin .eql (.t 5) (.c (I 11))),
 O 14 (.mov (.t 18))] [18]))))))) (
 .cond (.t 14) (sq (.reg [
 O 4 (.mov (.c (I 30)))] []) (
 .ret))
 (sq (.reg [
 O 20 (.bin .eql (.t 5) (.c (I 2))),
 O 19 (.mov (.t 20))] [5, 20]) (
 .cond (.t 19) (sq (sq (.reg [
 O 21 (.mov (.t 0)),
 O 22 (.call 0 1060 [(.t 21)])] [0, 21]) (
 .cond (.t 22) (sq (.reg [
 O 4 (.mov (.c (I 29)))] []) (
 .ret))
 (.skip))) (
 sq (.reg [
 O 4 (.mov (.c (I 28)))] []) (
 .ret)))
 (.skip))))))))) (
 sq (.reg [
 O 4 (.mov (.c (I 0)))] []) (
 .ret)))⟩
def F1060 : PF := ⟨1, [.t 2],
 sq (.reg [
 O 2 (.mov (.c (.b false)))] [2]) (
 sq (.reg [
 O 3 (.mov (.t 0)),
 O 4 (.bin .rem (.t 3) (.c (I 4))),
 O 5 (.bin .eql (.t 4) (.c (I 0))),
 O 6 (.mov (.t 5)),
 OG 7 6 true (.mov (.t 0)),
 OG 8 6 true (.bin .rem (.t 7) (.c (I 100))),
 OG 9 6 true (.bin .neq (.t 8) (.c (I 0))),
 OG 10 6 true (.mov (.t 9)),
 OG 11 10 false (.mov (.t 0)),
 OG 12 10 false (.bin .rem (.t 11) (.c (I 400))),
 OG 13 10 false (.bin .eql (.t 12) (.c (I 0))),
 OG 14 6 true (.pick (.t 10) (.c (.b true)) (.t 13)),
 O 15 (.pick (.t 6) (.t 14) (.c (.b false))),
 O 2 (.mov (.t 15))] [15, 14, 13, 12, 11, 10, 9, 8, 7, 6, 5, 4, 0, 3]) (
 .ret))⟩
end Go.Sim
end
section
namespace Go.Sim
end Go.Sim
end
section
namespace Go.Sim
def L26_0 : PC :=
 sq (sq (.reg [
    O 10 (.mov (.t 6)),
    O 11 (.bin .geq (.t 10) (.c (I 0)))] [10]) (
  .cond (.t 11) (.skip)
   (.exit 0))) (
 sq (.block 1 (
   sq (.reg [
     O 14 (.mov (.t 0)),
     O 15 (.mov (.t 6)),
     O 16 (.iaddr (K1 11) (.t 14) (.t 15)),
     O 17 (.faddr 0 (.t 16)),
     O 18 (.load K0 (.t 17)),
     O 19 (.mov (.t 1)),
     O 20 (.bin .eql (.t 18) (.t 19))] [19, 18, 17, 16, 15, 14]) (
   .cond (.t 20) (sq (.reg [
      O 21 (.mov (.t 0)),
      O 22 (.mov (.t 6)),
      O 23 (.iaddr (K1 11) (.t 21) (.t 22)),
      O 24 (.load (K1 11) (.t 23)),
      E (.store (K1 11) (.t 4) (.t 24)),
      O 5 (.mov (.c (.b true)))] [24, 23, 6, 22, 0, 21]) (
    .ret))
    (.skip)))) (
 .reg [
  O 12 (.mov (.t 6)),
  O 13 (.bin .sub (.t 12) (.c (I 1))),
  O 6 (.mov (.t 13))] [13, 12]))
def F26 : PF := ⟨2, [.c 4 (K1 11), .t 5],
 sq (.reg [
   O 4 (.alloc (K1 11) (.a [(I 0), (I 0), (I 0), (I 0), (I 0), (I 0), (I 0), (I 0), (.i .u64 0), (I 0), (.i .u64 0)])),
   O 5 (.mov (.c (.b false)))] [5]) (
 sq (sq (.reg [
    O 7 (.mov (.t 0)),
    O 8 (.len false (.t 7)),
    O 9 (.bin .sub (.t 8) (.c (I 1))),
    O 6 (.mov (.t 9))] [9, 8, 7]) (
  .block 0 (
   .loop [0, 1, 4, 6] L26_0))) (
 sq (.reg [
   O 25 (.agg [(I 0), (I 0), (I 0), (I 0), (I 0), (I 0), (I 0), (I 0), (.i .u64 0), (I 0), (.i .u64 0)] []),
   E (.store (K1 11) (.t 4) (.t 25)),
   O 5 (.mov (.c (.b false)))] [25]) (
 .ret)))⟩
def F727 : PF := ⟨4, [.c 8 (K1 10), .t 9],
 sq (.reg [
   O 4 (.box (K1 22) (.t 0)),
   O 5 (.box (K1 11) (.t 1)),
   O 6 (.box (K1 11) (.t 2)),
   O 8 (.alloc (K1 10) (.a [(I 0), (I 0), (I 0), (I 0), (I 0), (I 0), (.s []), (.s []), (.l (K1 3) [] true), (.i .u64 0)])),
   O 9 (.mov (.c (.b false)))] [9, 2, 1, 0]) (
 sq (.reg [
   O 20 (.load (K1 22) (.t 4)),
   O 21 (.faddr 0 (.t 6)),
   O 22 (.load K0 (.t 21)),
   O 23 (.faddr 2 (.t 6)),
   O 24 (.load K0 (.t 23)),
   O 25 (.call 0 24 [(.t 20), (.t 22), (.t 24)]),
   O 19 (.mov (.t 25)),
   O 26 (.ext (.t 19) 0),
   O 27 (.ext (.t 19) 1),
   O 10 (.alloc (K1 19) (.a [(.s []), (.s []), (.s []), (I 0), (I 0), (I 0), (I 0), (.l (K1 2) [] true), (.b false), (I 0), (I 0), (.b false), (.l (K1 2) [] true), (.b false), (I 0), (I 0), (.b false), (.l (K1 10) [] true), (.l (K1 6) [] true)])),
   E (.store (K1 19) (.t 10) (.t 26)),
   O 11 (.mov (.t 27))] [27, 26, 19, 25, 24, 23, 22, 21, 20]) (
 sq (sq (.reg [
    O 28 (.mov (.t 11)),
    O 29 (.un .not (.t 28))] [11, 28]) (
  .cond (.t 29) (sq (.reg [
     O 30 (.agg [(I 0), (I 0), (I 0), (I 0), (I 0), (I 0), (.s []), (.s []), (.l (K1 3) [] true), (.i .u64 0)] []),
     E (.store (K1 10) (.t 8) (.t 30)),
     O 9 (.mov (.c (.b false)))] [30]) (
   .ret))
   (.skip))) (
 sq (.reg [
   O 31 (.faddr 3 (.t 6)),
   O 32 (.load K0 (.t 31)),
   O 33 (.faddr 3 (.t 5)),
   O 34 (.load K0 (.t 33)),
   O 35 (.bin .sub (.t 32) (.t 34)),
   O 36 (.faddr 4 (.t 6)),
   O 37 (.load K0 (.t 36)),
   O 38 (.faddr 4 (.t 5)),
   O 39 (.load K0 (.t 38)),
   O 40 (.bin .sub (.t 37) (.t 39)),
   O 41 (.agg [(I 0), (I 0)] [(0, K0, (.t 35)), (1, K0, (.t 40))]),
   O 12 (.alloc (K1 2) (.a [(I 0), (I 0)])),
   E (.store (K1 2) (.t 12) (.t 41))] [41, 40, 39, 38, 37, 36, 35, 34, 33, 32, 31]) (
 sq (.reg [
   O 42 (.faddr 5 (.t 6)),
   O 43 (.load K0 (.t 42)),
   O 44 (.faddr 5 (.t 5)),
   O 45 (.load K0 (.t 44)),
   O 46 (.bin .sub (.t 43) (.t 45)),
   O 13 (.mov (.t 46))] [46, 45, 44, 43, 42]) (
 sq (.reg [
   O 47 (.mkf 806 [(.t 10)]),
   O 14 (.mov (.t 47))] [10, 47]) (
 sq (.regD [
   O 48 (.mov (.t 14)),
   O 49 (.faddr 3 (.t 4)),
   O 50 (.faddr 2 (.t 49)),
   O 51 (.load K0 (.t 50)),
   O 52 (.faddr 0 (.t 12)),
   O 53 (.load K0 (.t 52)),
   O 54 (.callv (.t 48) [(.t 51), (.t 53)]),
   O 55 (.mov (.t 14)),
   O 56 (.faddr 3 (.t 4)),
   O 57 (.faddr 3 (.t 56)),
   O 58 (.load K0 (.t 57)),
   O 59 (.faddr 1 (.t 12)),
   O 60 (.load K0 (.t 59)),
   O 61 (.un .neg (.t 60)),
   O 62 (.callv (.t 55) [(.t 58), (.t 61)]),
   O 63 (.mov (.t 14)),
   O 64 (.faddr 3 (.t 4)),
   O 65 (.faddr 5 (.t 64)),
   O 66 (.load K0 (.t 65)),
   O 67 (.mov (.t 13)),
   O 68 (.un .neg (.t 67)),
   O 69 (.callv (.t 63) [(.t 66), (.t 68)]),
   O 70 (.mov (.t 14)),
   O 71 (.faddr 0 (.t 6)),
   O 72 (.load K0 (.t 71)),
   O 73 (.faddr 0 (.t 12)),
   O 74 (.load K0 (.t 73)),
   O 75 (.un .neg (.t 74)),
   O 76 (.faddr 1 (.t 12)),
   O 77 (.load K0 (.t 76)),
   O 78 (.bin .add (.t 75) (.t 77)),
   O 79 (.mov (.t 13)),
   O 80 (.bin .add (.t 78) (.t 79)),
   O 81 (.callv (.t 70) [(.t 72), (.t 80)]),
   O 82 (.bsl (K1 3) (.a [(I 0), (I 0), (.s [])]) 4 [(0, (.t 54)), (1, (.t 62)), (2, (.t 69)), (3, (.t 81))]),
   O 83 (.call 0 110 [(.t 82)]),
   O 15 (.mov (.t 83))] [0, 0, 2, 6, 0, 16, 63, 0, 0, 256, 768, 0, 2048, 6144, 16383, 0, 0, 65536, 196608, 0, 524288, 2097151, 0, 0, 8388608, 0, 33554432, 100663296, 0, 268435456, 1040187392, 0, 4261412864, 8589934591, 17179869183, 34359738367, 68719476735] [83, 82, 81, 80, 79, 78, 77, 76, 75, 74, 73, 72, 71, 70, 69, 68, 13, 67, 66, 65, 64, 63, 62, 61, 60, 59, 58, 57, 56, 55, 54, 53, 12, 52, 51, 50, 4, 49, 14, 48]) (
 sq (sq (.reg [
    O 84 (.mov (.t 15)),
    O 85 (.len false (.t 84)),
    O 86 (.bin .eql (.t 85) (.c (I 0)))] [85, 84]) (
  .cond (.t 86) (sq (.reg [
     O 87 (.agg [(I 0), (I 0), (I 0), (I 0), (I 0), (I 0), (.s []), (.s []), (.l (K1 3) [] true), (.i .u64 0)] []),
     E (.store (K1 10) (.t 8) (.t 87)),
     O 9 (.mov (.c (.b false)))] [87]) (
   .ret))
   (.skip))) (
 sq (.reg [
   O 16 (.mov (.c (I 5)))] []) (
 sq (sq (.reg [
    O 88 (.faddr 6 (.t 5)),
    O 89 (.load K0 (.t 88)),
    O 90 (.bin .eql (.t 89) (.c (I 0)))] [89, 88]) (
  .cond (.t 90) (.reg [
    O 16 (.mov (.c (I 4)))] [])
   (.skip))) (
 sq (.reg [
   O 17 (.mov (.c (I 73048)))] []) (
 sq (sq (.reg [
    O 91 (.faddr 2 (.t 6)),
    O 92 (.load K0 (.t 91)),
    O 93 (.bin .lss (.t 92) (.c (I 73048)))] [92, 91]) (
  .cond (.t 93) (.reg [
    O 94 (.faddr 2 (.t 6)),
    O 95 (.load K0 (.t 94)),
    O 96 (.bin .add (.t 95) (.c (I 1))),
    O 17 (.mov (.t 96))] [96, 95, 94])
   (.skip))) (
 sq (.regD [
   O 97 (.faddr 0 (.t 6)),
   O 98 (.load K0 (.t 97)),
   O 99 (.call 0 109 [(.t 98)]),
   O 100 (.bin .add (.c (.s [105, 110, 116, 47])) (.t 99)),
   O 101 (.bin .add (.t 100) (.c (.s [47]))),
   O 102 (.faddr 2 (.t 6)),
   O 103 (.load K0 (.t 102)),
   O 104 (.call 0 109 [(.t 103)]),
   O 105 (.bin .add (.t 101) (.t 104)),
   O 106 (.bin .add (.t 105) (.c (.s [47]))),
   O 107 (.faddr 6 (.t 5)),
   O 108 (.load K0 (.t 107)),
   O 109 (.call 0 109 [(.t 108)]),
   O 110 (.bin .add (.t 106) (.t 109)),
   O 18 (.mov (.t 110))] [0, 1, 3, 7, 15, 0, 32, 103, 255, 511, 0, 1024, 3303, 8191, 16383] [110, 109, 108, 5, 107, 106, 105, 104, 103, 102, 101, 100, 99, 98, 97]) (
 sq (.reg [
   O 111 (.mov (.t 3)),
   O 112 (.mov (.t 17)),
   O 113 (.mov (.t 16)),
   O 114 (.faddr 2 (.t 6)),
   O 115 (.load K0 (.t 114)),
   O 116 (.mov (.t 18)),
   O 117 (.mov (.t 15)),
   O 118 (.agg [(I 0), (I 0), (I 0), (I 0), (I 0), (I 0), (.s []), (.s []), (.l (K1 3) [] true), (.i .u64 0)] [(1, K0, (.t 111)), (2, K0, (.t 112)), (3, K0, (.t 113)), (4, K0, (.c (I 1))), (5, K0, (.t 115)), (6, K0, (.t 116)), (7, K0, (.c (.s [105, 110, 116, 101, 114, 101, 115, 116]))), (8, K0, (.t 117))]),
   E (.store (K1 10) (.t 8) (.t 118)),
   O 9 (.mov (.c (.b true)))] [118, 15, 117, 18, 116, 115, 6, 114, 16, 113, 17, 112, 3, 111]) (
 .ret))))))))))))))⟩
def F787 : PF := ⟨1, [.t 2],
 sq (.reg [
   O 2 (.mov (.c (I 0)))] [2]) (
 sq (sq (.reg [
    O 6 (.mov (.t 0)),
    O 7 (.call 0 22 [(.t 6)]),
    O 8 (.un .not (.t 7))] [7, 6]) (
  .cond (.t 8) (sq (.reg [
     O 2 (.mov (.c (I (-1))))] []) (
   .ret))
   (.skip))) (
 sq (.reg [
   O 10 (.mov (.t 0)),
   O 11 (.call 0 65 [(.t 10)]),
   O 9 (.mov (.t 11)),
   O 12 (.ext (.t 9) 0),
   O 13 (.ext (.t 9) 1),
   O 14 (.ext (.t 9) 2),
   O 3 (.mov (.t 12)),
   O 4 (.mov (.t 13)),
   O 5 (.mov (.t 14))] [14, 13, 12, 9, 11, 10]) (
 sq (.reg [
   O 15 (.mov (.t 0)),
   O 16 (.mov (.t 5)),
   O 17 (.bin .sub (.t 15) (.t 16)),
   O 18 (.mov (.t 3)),
   O 19 (.mov (.t 4)),
   O 20 (.call 0 72 [(.t 18), (.t 19)]),
   O 21 (.bin .add (.t 17) (.t 20)),
   O 2 (.mov (.t 21))] [21, 20, 4, 19, 3, 18, 17, 5, 16, 0, 15]) (
 .ret))))⟩
def F806 : PF := ⟨3, [.c 5 (K1 3)],
 sq (.reg [
   O 5 (.alloc (K1 3) (.a [(I 0), (I 0), (.s [])]))] []) (
 sq (.reg [
   O 6 (.mov (.t 0)),
   O 7 (.mov (.t 1)),
   O 8 (.faddr 1 (.t 2)),
   O 9 (.load K0 (.t 8)),
   O 10 (.agg [(I 0), (I 0), (.s [])] [(0, K0, (.t 6)), (1, K0, (.t 7)), (2, K0, (.t 9))]),
   E (.store (K1 3) (.t 5) (.t 10))] [10, 9, 2, 8, 1, 7, 0, 6]) (
 .ret))⟩
def L866_0 : PC :=
 sq (sq (.reg [
    O 9 (.mov (.t 6)),
    O 10 (.bin .geq (.t 9) (.c (I 0))),
    O 11 (.mov (.t 10)),
    OG 12 11 true (.mov (.t 6)),
    OG 13 11 true (.mov (.t 1)),
    OG 14 11 true (.bin .leq (.t 12) (.t 13)),
    O 15 (.pick (.t 11) (.t 14) (.c (.b false)))] [14, 13, 12, 11, 10, 9]) (
  .cond (.t 15) (.skip)
   (.exit 0))) (
 sq (.block 1 (
   sq (.reg [
     O 19 (.mov (.t 2)),
     O 20 (.mov (.t 6)),
     O 21 (.callv (.t 19) [(.t 20)]),
     O 22 (.un .not (.t 21))] [21, 20, 19]) (
   .cond (.t 22) (.ret)
    (.skip)))) (
 .reg [
  O 16 (.mov (.t 6)),
  O 17 (.bin .add (.t 16) (.c (I 1))),
  O 18 (.call 0 787 [(.t 17)]),
  O 6 (.mov (.t 18))] [18, 17, 16]))
def F866 : PF := ⟨3, [],
 sq (.reg [
   O 7 (.mov (.t 0)),
   O 8 (.call 0 787 [(.t 7)]),
   O 6 (.mov (.t 8))] [8, 0, 7]) (
 .block 0 (
  .loop [1, 2, 6] L866_0))⟩
def F868 : PF := ⟨2, [.t 4],
 sq (.reg [
   O 4 (.mov (.c (.b false)))] [4]) (
 sq (.reg [
   O 9 (.mov (.t 1)),
   O 10 (.call 0 65 [(.t 9)]),
   O 8 (.mov (.t 10)),
   O 11 (.ext (.t 8) 0),
   O 12 (.ext (.t 8) 1),
   O 13 (.ext (.t 8) 2),
   O 5 (.mov (.t 11)),
   O 6 (.mov (.t 12)),
   O 7 (.mov (.t 13))] [7, 5, 13, 12, 11, 8, 10, 1, 9]) (
 sq (.reg [
   O 14 (.mov (.t 0)),
   O 15 (.bin .geq (.t 14) (.c (I 1))),
   O 16 (.mov (.t 15)),
   OG 17 16 true (.mov (.t 0)),
   OG 18 16 true (.bin .leq (.t 17) (.c (I 12))),
   O 19 (.pick (.t 16) (.t 18) (.c (.b false))),
   O 20 (.mov (.t 19)),
   OG 21 20 true (.mov (.t 6)),
   OG 22 20 true (.mov (.t 0)),
   OG 23 20 true (.bin .rem (.t 21) (.t 22)),
   OG 24 20 true (.bin .eql (.t 23) (.c (I 0))),
   O 25 (.pick (.t 20) (.t 24) (.c (.b false))),
   O 4 (.mov (.t 25))] [25, 24, 23, 22, 6, 21, 20, 19, 18, 17, 16, 15, 0, 14]) (
 .ret)))⟩
def L1112_0 : PC :=
 sq (sq (.reg [
    O 11 (.mov (.t 5)),
    O 12 (.mov (.t 0)),
    O 13 (.len false (.t 12)),
    O 14 (.bin .lss (.t 11) (.t 13))] [13, 12, 11]) (
  .cond (.t 14) (.skip)
   (.exit 0))) (
 sq (.block 1 (
   sq (.regD [
     O 17 (.mov (.t 0)),
     O 18 (.mov (.t 5)),
     O 19 (.iaddr K0 (.t 17) (.t 18)),
     O 20 (.load K0 (.t 19)),
     O 21 (.mov (.t 1)),
     O 22 (.mov (.t 5)),
     O 23 (.iaddr K0 (.t 21) (.t 22)),
     O 24 (.load K0 (.t 23)),
     O 25 (.bin .neq (.t 20) (.t 24))] [0, 0, 3, 7, 0, 0, 48, 112, 255] [24, 23, 22, 21, 20, 19, 18, 17]) (
   .cond (.t 25) (sq (.reg [
      O 4 (.mov (.c (.b false)))] []) (
    .ret))
    (.skip)))) (
 .reg [
  O 15 (.mov (.t 5)),
  O 16 (.bin .add (.t 15) (.c (I 1))),
  O 5 (.mov (.t 16))] [16, 15]))
def F1112 : PF := ⟨2, [.t 4],
 sq (.reg [
   O 4 (.mov (.c (.b false)))] [4]) (
 sq (sq (.reg [
    O 6 (.mov (.t 0)),
    O 7 (.len false (.t 6)),
    O 8 (.mov (.t 1)),
    O 9 (.len false (.t 8)),
    O 10 (.bin .neq (.t 7) (.t 9))] [9, 8, 7, 6]) (
  .cond (.t 10) (sq (.reg [
     O 4 (.mov (.c (.b false)))] []) (
   .ret))
   (.skip))) (
 sq (sq (.reg [
    O 5 (.mov (.c (I 0)))] []) (
  .block 0 (
   .loop [0, 1, 5] L1112_0))) (
 sq (.reg [
   O 4 (.mov (.c (.b true)))] []) (
 .ret))))⟩
def F1113 : PF := ⟨3, [.t 6],
 sq (.reg [
   O 3 (.box K0 (.t 0)),
   O 6 (.mov (.c (.l K0 [] true)))] [6, 0]) (
 sq (sq (.reg [
    O 8 (.mov (.t 1)),
    O 9 (.call 0 22 [(.t 8)]),
    O 10 (.un .not (.t 9)),
    O 11 (.mov (.t 10)),
    OG 12 11 false (.mov (.t 2)),
    OG 13 11 false (.call 0 22 [(.t 12)]),
    OG 14 11 false (.un .not (.t 13)),
    O 15 (.pick (.t 11) (.c (.b true)) (.t 14))] [14, 13, 12, 11, 10, 9, 8]) (
  .cond (.t 15) (sq (.reg [
     O 6 (.mov (.c (.l K0 [] true)))] []) (
   .ret))
   (.skip))) (
 sq (.reg [
   O 7 (.alloc K0 (.l K0 [] true))] []) (
 sq (.reg [
   O 16 (.mov (.t 1)),
   O 17 (.mov (.t 2)),
   O 18 (.mkf 1114 [(.t 3), (.t 7)]),
   O 19 (.call 2 866 [(.t 16), (.t 17), (.t 18)])] [19, 3, 18, 2, 17, 1, 16]) (
 sq (.reg [
   O 20 (.load K0 (.t 7)),
   O 6 (.mov (.t 20))] [7, 20]) (
 .ret)))))⟩
def F1114 : PF := ⟨3, [.t 4],
 sq (.reg [
   O 4 (.mov (.c (.b false)))] [4]) (
 sq (sq (.reg [
    O 5 (.load K0 (.t 1)),
    O 6 (.mov (.t 0)),
    O 7 (.call 0 868 [(.t 5), (.t 6)])] [6, 1, 5]) (
  .cond (.t 7) (.reg [
    O 8 (.load K0 (.t 2)),
    O 9 (.mov (.t 0)),
    O 10 (.bsl K0 (I 0) 1 [(0, (.t 9))]),
    O 11 (.app K0 8 (.t 8) (.t 10)),
    E (.store K0 (.t 2) (.t 11))] [11, 10, 0, 9, 2, 8])
   (.skip))) (
 sq (.reg [
   O 4 (.mov (.c (.b true)))] []) (
 .ret)))⟩
def F1115 : PF := ⟨3, [.t 6],
 sq (.reg [
   O 4 (.box (K1 3) (.t 1)),
   O 6 (.mov (.c (.b false)))] [6, 1]) (
 sq (sq (.reg [
    O 11 (.mov (.t 2)),
    O 12 (.len false (.t 11)),
    O 13 (.bin .gtr (.t 12) (.c (I 40))),
    O 14 (.mov (.t 13)),
    OG 15 14 false (.faddr 1 (.t 4)),
    OG 16 14 false (.load K0 (.t 15)),
    OG 17 14 false (.bin .lss (.t 16) (.c (I (-1099511627776)))),
    O 18 (.pick (.t 14) (.c (.b true)) (.t 17)),
    O 19 (.mov (.t 18)),
    OG 20 19 false (.faddr 1 (.t 4)),
    OG 21 19 false (.load K0 (.t 20)),
    OG 22 19 false (.bin .gtr (.t 21) (.c (I 1099511627776))),
    O 23 (.pick (.t 19) (.c (.b true)) (.t 22)),
    O 24 (.mov (.t 23)),
    OG 25 24 false (.faddr 2 (.t 4)),
    OG 26 24 false (.load K0 (.t 25)),
    OG 27 24 false (.bin .lss (.t 26) (.c (I (-1099511627776)))),
    O 28 (.pick (.t 24) (.c (.b true)) (.t 27)),
    O 29 (.mov (.t 28)),
    OG 30 29 false (.faddr 2 (.t 4)),
    OG 31 29 false (.load K0 (.t 30)),
    OG 32 29 false (.bin .gtr (.t 31) (.c (I 1099511627776))),
    O 33 (.pick (.t 29) (.c (.b true)) (.t 32)),
    O 34 (.mov (.t 33)),
    OG 35 34 false (.faddr 2 (.t 4)),
    OG 36 34 false (.load K0 (.t 35)),
    OG 37 34 false (.faddr 1 (.t 4)),
    OG 38 34 false (.load K0 (.t 37)),
    OG 39 34 false (.bin .sub (.t 36) (.t 38)),
    OG 40 34 false (.bin .gtr (.t 39) (.c (I 2000))),
    O 41 (.pick (.t 34) (.c (.b true)) (.t 40))] [40, 39, 38, 37, 36, 35, 34, 33, 32, 31, 30, 29, 28, 27, 26, 25, 24, 23, 22, 21, 20, 19, 18, 17, 16, 15, 14, 13, 12, 11]) (
  .cond (.t 41) (sq (.reg [
     O 42 (.call 0 1106 []),
     O 6 (.mov (.t 42))] [42]) (
   .ret))
   (.skip))) (
 sq (.reg [
   O 44 (.mov (.t 2)),
   O 45 (.faddr 0 (.t 4)),
   O 46 (.load K0 (.t 45)),
   O 47 (.call 0 26 [(.t 44), (.t 46)]),
   O 43 (.mov (.t 47)),
   O 48 (.ext (.t 43) 0),
   O 49 (.ext (.t 43) 1),
   O 7 (.alloc (K1 11) (.a [(I 0), (I 0), (I 0), (I 0), (I 0), (I 0), (I 0), (I 0), (.i .u64 0), (I 0), (.i .u64 0)])),
   E (.store (K1 11) (.t 7) (.t 48)),
   O 8 (.mov (.t 49))] [49, 48, 43, 47, 46, 45, 44]) (
 sq (.reg [
   O 51 (.mov (.t 2)),
   O 52 (.faddr 0 (.t 4)),
   O 53 (.load K0 (.t 52)),
   O 54 (.call 0 1116 [(.t 51), (.t 53)]),
   O 50 (.mov (.t 54)),
   O 55 (.ext (.t 50) 0),
   O 56 (.ext (.t 50) 1),
   O 9 (.alloc (K1 11) (.a [(I 0), (I 0), (I 0), (I 0), (I 0), (I 0), (I 0), (I 0), (.i .u64 0), (I 0), (.i .u64 0)])),
   E (.store (K1 11) (.t 9) (.t 55)),
   O 10 (.mov (.t 56))] [56, 55, 50, 54, 53, 52, 2, 51]) (
 sq (.regD [
   O 57 (.mov (.t 0)),
   O 58 (.faddr 1 (.t 4)),
   O 59 (.load K0 (.t 58)),
   O 60 (.faddr 2 (.t 4)),
   O 61 (.load K0 (.t 60)),
   O 62 (.call 0 1113 [(.t 57), (.t 59), (.t 61)]),
   O 63 (.mov (.t 0)),
   O 64 (.faddr 1 (.t 4)),
   O 65 (.load K0 (.t 64)),
   O 66 (.faddr 2 (.t 4)),
   O 67 (.load K0 (.t 66)),
   O 68 (.call 0 1117 [(.t 63), (.t 65), (.t 67)]),
   O 69 (.call 0 1112 [(.t 62), (.t 68)]),
   O 70 (.mov (.t 69)),
   OG 71 70 true (.load (K1 11) (.t 7)),
   OG 72 70 true (.load (K1 11) (.t 9)),
   OG 73 70 true (.eqv false [1, 1, 1, 1, 1, 1, 1, 1, 1, 1, 1] (.t 71) (.t 72)),
   O 74 (.pick (.t 70) (.t 73) (.c (.b false))),
   O 75 (.mov (.t 74)),
   OG 76 75 true (.mov (.t 8)),
   OG 77 75 true (.mov (.t 10)),
   OG 78 75 true (.eqb false (.t 76) (.t 77)),
   O 79 (.pick (.t 75) (.t 78) (.c (.b false))),
   O 80 (.mov (.t 79)),
   OG 81 80 true (.call 0 1106 []),
   O 82 (.pick (.t 80) (.t 81) (.c (.b false))),
   O 6 (.mov (.t 82))] [0, 0, 2, 0, 8, 31, 0, 0, 128, 0, 512, 2047, 4095, 8191, 16383, 16383, 65535, 131071, 262143, 524287, 524287, 2097151, 4194303, 8388607, 16777215, 33554431, 67108863] [82, 81, 80, 79, 78, 10, 77, 8, 76, 75, 74, 73, 9, 72, 7, 71, 70, 69, 68, 67, 66, 65, 64, 63, 62, 61, 60, 59, 4, 58, 0, 57]) (
 .ret)))))⟩
def L1116_0 : PC :=
 sq (sq (.reg [
    O 10 (.mov (.t 6)),
    O 11 (.bin .geq (.t 10) (.c (I 0)))] [10]) (
  .cond (.t 11) (.skip)
   (.exit 0))) (
 sq (.block 1 (
   sq (.reg [
     O 14 (.mov (.t 0)),
     O 15 (.mov (.t 6)),
     O 16 (.iaddr (K1 11) (.t 14) (.t 15)),
     O 17 (.faddr 0 (.t 16)),
     O 18 (.load K0 (.t 17)),
     O 19 (.mov (.t 1)),
     O 20 (.bin .eql (.t 18) (.t 19))] [19, 18, 17, 16, 15, 14]) (
   .cond (.t 20) (sq (.reg [
      O 21 (.mov (.t 0)),
      O 22 (.mov (.t 6)),
      O 23 (.iaddr (K1 11) (.t 21) (.t 22)),
      O 24 (.load (K1 11) (.t 23)),
      E (.store (K1 11) (.t 4) (.t 24)),
      O 5 (.mov (.c (.b true)))] [24, 23, 6, 22, 0, 21]) (
    .ret))
    (.skip)))) (
 .reg [
  O 12 (.mov (.t 6)),
  O 13 (.bin .sub (.t 12) (.c (I 1))),
  O 6 (.mov (.t 13))] [13, 12]))
def F1116 : PF := ⟨2, [.c 4 (K1 11), .t 5],
 sq (.reg [
   O 4 (.alloc (K1 11) (.a [(I 0), (I 0), (I 0), (I 0), (I 0), (I 0), (I 0), (I 0), (.i .u64 0), (I 0), (.i .u64 0)])),
   O 5 (.mov (.c (.b false)))] [5]) (
 sq (sq (.reg [
    O 7 (.mov (.t 0)),
    O 8 (.len false (.t 7)),
    O 9 (.bin .sub (.t 8) (.c (I 1))),
    O 6 (.mov (.t 9))] [9, 8, 7]) (
  .block 0 (
   .loop [0, 1, 4, 6] L1116_0))) (
 sq (.reg [
   O 25 (.agg [(I 0), (I 0), (I 0), (I 0), (I 0), (I 0), (I 0), (I 0), (.i .u64 0), (I 0), (.i .u64 0)] []),
   E (.store (K1 11) (.t 4) (.t 25)),
   O 5 (.mov (.c (.b false)))] [25]) (
 .ret)))⟩
def L1117_0 : PC :=
 sq (sq (.reg [
    O 32 (.mov (.t 8)),
    O 33 (.bin .geq (.t 32) (.c (I 0))),
    O 34 (.mov (.t 33)),
    OG 35 34 true (.mov (.t 8)),
    OG 36 34 true (.mov (.t 2)),
    OG 37 34 true (.bin .leq (.t 35) (.t 36)),
    O 38 (.pick (.t 34) (.t 37) (.c (.b false)))] [37, 36, 35, 34, 33, 32]) (
  .cond (.t 38) (.skip)
   (.exit 0))) (
 .block 1 (
  sq (.reg [
    O 40 (.mov (.t 8)),
    O 41 (.call 0 1045 [(.t 40)]),
    O 39 (.mov (.t 41)),
    O 42 (.ext (.t 39) 0),
    O 43 (.ext (.t 39) 1),
    O 44 (.ext (.t 39) 2),
    O 9 (.mov (.t 42)),
    O 10 (.mov (.t 43)),
    O 11 (.mov (.t 44))] [11, 9, 44, 43, 42, 39, 41, 40]) (
  sq (sq (.reg [
     O 45 (.mov (.t 10)),
     O 46 (.mov (.t 0)),
     O 47 (.bin .rem (.t 45) (.t 46)),
     O 48 (.bin .eql (.t 47) (.c (I 0)))] [47, 46, 10, 45]) (
   .cond (.t 48) (.reg [
     O 49 (.mov (.t 7)),
     O 50 (.mov (.t 8)),
     O 51 (.bsl K0 (I 0) 1 [(0, (.t 50))]),
     O 52 (.app K0 8 (.t 49) (.t 51)),
     O 7 (.mov (.t 52))] [52, 51, 50, 49])
    (.skip))) (
  .reg [
   O 53 (.mov (.t 8)),
   O 54 (.bin .add (.t 53) (.c (I 1))),
   O 55 (.call 0 1118 [(.t 54)]),
   O 8 (.mov (.t 55))] [55, 54, 53]))))
def F1117 : PF := ⟨3, [.t 6],
 sq (.reg [
   O 6 (.mov (.c (.l K0 [] true)))] [6]) (
 sq (.reg [
   O 12 (.bsl K0 (I 0) 0 []),
   O 7 (.mov (.t 12))] [12]) (
 sq (sq (.reg [
    O 13 (.mov (.t 0)),
    O 14 (.bin .lss (.t 13) (.c (I 1))),
    O 15 (.mov (.t 14)),
    OG 16 15 false (.mov (.t 0)),
    OG 17 15 false (.bin .gtr (.t 16) (.c (I 12))),
    O 18 (.pick (.t 15) (.c (.b true)) (.t 17)),
    O 19 (.mov (.t 18)),
    OG 20 19 false (.mov (.t 1)),
    OG 21 19 false (.call 0 544 [(.t 20)]),
    OG 22 19 false (.un .not (.t 21)),
    O 23 (.pick (.t 19) (.c (.b true)) (.t 22)),
    O 24 (.mov (.t 23)),
    OG 25 24 false (.mov (.t 2)),
    OG 26 24 false (.call 0 544 [(.t 25)]),
    OG 27 24 false (.un .not (.t 26)),
    O 28 (.pick (.t 24) (.c (.b true)) (.t 27))] [27, 26, 25, 24, 23, 22, 21, 20, 19, 18, 17, 16, 15, 14, 13]) (
  .cond (.t 28) (sq (.reg [
     O 29 (.mov (.t 7)),
     O 6 (.mov (.t 29))] [7, 29]) (
   .ret))
   (.skip))) (
 sq (.reg [
   O 30 (.mov (.t 1)),
   O 31 (.call 0 1118 [(.t 30)]),
   O 8 (.mov (.t 31))] [31, 1, 30]) (
 sq (.block 0 (
   .loop [0, 2, 7, 8] L1117_0)) (
 sq (.reg [
   O 56 (.mov (.t 7)),
   O 6 (.mov (.t 56))] [7, 56]) (
 .ret))))))⟩
def F1118 : PF := ⟨1, [.t 2],
 sq (.reg [
   O 2 (.mov (.c (I 0)))] [2]) (
 sq (sq (.reg [
    O 6 (.mov (.t 0)),
    O 7 (.call 0 544 [(.t 6)]),
    O 8 (.un .not (.t 7))] [7, 6]) (
  .cond (.t 8) (sq (.reg [
     O 2 (.mov (.c (I (-1))))] []) (
   .ret))
   (.skip))) (
 sq (.reg [
   O 10 (.mov (.t 0)),
   O 11 (.call 0 1045 [(.t 10)]),
   O 9 (.mov (.t 11)),
   O 12 (.ext (.t 9) 0),
   O 13 (.ext (.t 9) 1),
   O 14 (.ext (.t 9) 2),
   O 3 (.mov (.t 12)),
   O 4 (.mov (.t 13)),
   O 5 (.mov (.t 14))] [14, 13, 12, 9, 11, 10]) (
 sq (.reg [
   O 15 (.mov (.t 0)),
   O 16 (.mov (.t 3)),
   O 17 (.mov (.t 4)),
   O 18 (.call 0 1051 [(.t 16), (.t 17)]),
   O 19 (.bin .add (.t 15) (.t 18)),
   O 20 (.mov (.t 5)),
   O 21 (.bin .sub (.t 19) (.t 20)),
   O 2 (.mov (.t 21))] [21, 5, 20, 19, 18, 4, 17, 3, 16, 0, 15]) (
 .ret))))⟩
end Go.Sim
end
section
namespace Go.Sim
def F20 : PF := ⟨4, [.c 8 (K1 11), .t 9],
 sq (.reg [
 O 4 (.box (K1 22) (.t 0)),
 O 8 (.alloc (K1 11) (.a [(I 0), (I 0), (I 0), (I 0), (I 0), (I 0), (I 0), (I 0), (.i .u64 0), (I 0), (.i .u64 0)])),
 O 9 (.mov (.c (I 0)))] [9, 0]) (
 sq (.reg [
 O 21 (.load (K1 22) (.t 4)),
 O 22 (.mov (.t 2)),
 O 23 (.call 0 12 [(.t 21), (.t 22)]),
 O 20 (.mov (.t 23)),
 O 24 (.ext (.t 20) 0),
 O 25 (.ext (.t 20) 1),
 O 10 (.alloc (K1 7) (.a [(I 0), (I 0), (I 0), (I 0), (.s []), (.s []), (.s [])])),
 E (.store (K1 7) (.t 10) (.t 24)),
 O 11 (.mov (.t 25))] [25, 24, 20, 23, 22, 21]) (
 sq (sq (.reg [
 O 26 (.mov (.t 11)),
 O 27 (.un .not (.t 26))] [11, 26]) (
 .cond (.t 27) (sq (.reg [
 O 28 (.agg [(I 0), (I 0), (I 0), (I 0), (I 0), (I 0), (I 0), (I 0), (.i .u64 0), (I 0), (.i .u64 0)] []),
 E (.store (K1 11) (.t 8) (.t 28)),
 O 9 (.mov (.c (I 11)))] [28]) (
 .ret))
 (.skip))) (
 sq (.reg [
 O 29 (.mov (.t 1)),
 O 30 (.load (K1 7) (.t 10)),
 O 31 (.call 0 21 [(.t 29), (.t 30)]),
 O 12 (.mov (.t 31))] [31, 10, 30, 29]) (
 sq (sq (.reg [
 O 32 (.mov (.t 3)),
 O 33 (.call 0 22 [(.t 32)]),
 O 34 (.un .not (.t 33)),
 O 35 (.mov (.t 34)),
 OG 36 35 false (.mov (.t 12)),
 OG 37 35 false (.call 0 22 [(.t 36)]),
 OG 38 35 false (.un .not (.t 37)),
 O 39 (.pick (.t 35) (.c (.b true)) (.t 38)),
 O 40 (.mov (.t 39)),
 OG 41 40 false (.mov (.t 12)),
 OG 42 40 false (.mov (.t 3)),
 OG 43 40 false (.bin .gtr (.t 41) (.t 42)),
 O 44 (.pick (.t 40) (.c (.b true)) (.t 43))] [43, 42, 41, 40, 39, 38, 37, 36, 35, 34, 33, 32]) (
 .cond (.t 44) (sq (.reg [
 O 45 (.agg [(I 0), (I 0), (I 0), (I 0), (I 0), (I 0), (I 0), (I 0), (.i .u64 0), (I 0), (.i .u64 0)] []),
 E (.store (K1 11) (.t 8) (.t 45)),
 O 9 (.mov (.c (I 1)))] [45]) (
 .ret))
 (.skip))) (
 sq (.reg [
 O 47 (.load (K1 22) (.t 4)),
 O 48 (.mov (.t 2)),
 O 49 (.mov (.t 12)),
 O 50 (.mov (.t 3)),
 O 51 (.call 0 23 [(.t 47), (.t 48), (.t 49), (.t 50)]),
 O 46 (.mov (.t 51)),
 O 52 (.ext (.t 46) 0),
 O 53 (.ext (.t 46) 1),
 O 13 (.mov (.t 52)),
 O 14 (.mov (.t 53))] [53, 52, 46, 51, 50, 49, 48, 47]) (
 sq (sq (.reg [
 O 54 (.mov (.t 14)),
 O 55 (.bin .neq (.t 54) (.c (I 0)))] [54]) (
 .cond (.t 55) (sq (.reg [
 O 56 (.agg [(I 0), (I 0), (I 0), (I 0), (I 0), (I 0), (I 0), (I 0), (.i .u64 0), (I 0), (.i .u64 0)] []),
 O 57 (.mov (.t 14)),
 E (.store (K1 11) (.t 8) (.t 56)),
 O 9 (.mov (.t 57))] [14, 57, 56]) (
 .ret))
 (.skip))) (
 sq (.reg [
 O 59 (.load (K1 22) (.t 4)),
 O 60 (.mov (.t 2)),
 O 61 (.mov (.t 3)),
 O 62 (.call 0 24 [(.t 59), (.t 60), (.t 61)]),
 O 58 (.mov (.t 62)),
 O 63 (.ext (.t 58) 0),
 O 64 (.ext (.t 58) 1),
 O 15 (.alloc (K1 19) (.a [(.s []), (.s []), (.s []), (I 0), (I 0), (I 0), (I 0), (.l (K1 2) [] true), (.b false), (I 0), (I 0), (.b false), (.l (K1 2) [] true), (.b false), (I 0), (I 0), (.b false), (.l (K1 10) [] true), (.l (K1 6) [] true)])),
 E (.store (K1 19) (.t 15) (.t 63)),
 O 11 (.mov (.t 64))] [64, 63, 58, 62, 61, 60, 4, 59]) (
 sq (sq (.reg [
 O 65 (.mov (.t 11)),
 O 66 (.un .not (.t 65))] [11, 65]) (
 .cond (.t 66) (sq (.reg [
 O 67 (.agg [(I 0), (I 0), (I 0), (I 0), (I 0), (I 0), (I 0), (I 0), (.i .u64 0), (I 0), (.i .u64 0)] []),
 E (.store (K1 11) (.t 8) (.t 67)),
 O 9 (.mov (.c (I 11)))] [67]) (
 .ret))
 (.skip))) (
 sq (.reg [
 O 16 (.alloc (K1 4) (.a [(I 0), (.i .u64 0), (I 0), (.i .u64 0)]))] []) (
 sq (sq (.reg [
 O 69 (.mov (.t 13)),
 O 70 (.call 0 25 [(.t 69)]),
 O 68 (.mov (.t 70)),
 O 71 (.ext (.t 68) 0),
 O 72 (.ext (.t 68) 1),
 O 73 (.ext (.t 68) 2),
 O 74 (.faddr 0 (.t 16)),
 E (.store (K1 2) (.t 74) (.t 71)),
 O 75 (.faddr 2 (.t 16)),
 E (.store (K1 2) (.t 75) (.t 72)),
 O 14 (.mov (.t 73))] [75, 74, 73, 72, 71, 68, 70, 13, 69]) (
 sq (.reg [
 O 76 (.mov (.t 14)),
 O 77 (.bin .neq (.t 76) (.c (I 0)))] [76]) (
 .cond (.t 77) (sq (.reg [
 O 78 (.agg [(I 0), (I 0), (I 0), (I 0), (I 0), (I 0), (I 0), (I 0), (.i .u64 0), (I 0), (.i .u64 0)] []),
 O 79 (.mov (.t 14)),
 E (.store (K1 11) (.t 8) (.t 78)),
 O 9 (.mov (.t 79))] [14, 79, 78]) (
 .ret))
 (.skip)))) (
 sq (.reg [
 O 81 (.mov (.t 1)),
 O 82 (.mov (.t 2)),
 O 83 (.call 0 26 [(.t 81), (.t 82)]),
 O 80 (.mov (.t 83)),
 O 84 (.ext (.t 80) 0),
 O 85 (.ext (.t 80) 1),
 O 17 (.alloc (K1 11) (.a [(I 0), (I 0), (I 0), (I 0), (I 0), (I 0), (I 0), (I 0), (.i .u64 0), (I 0), (.i .u64 0)])),
 E (.store (K1 11) (.t 17) (.t 84)),
 O 18 (.mov (.t 85))] [18, 85, 84, 80, 83, 82, 1, 81]) (
 sq (.reg [
 O 86 (.mov (.t 2)),
 O 87 (.mov (.t 12)),
 O 88 (.mov (.t 3)),
 O 89 (.agg [(I 0), (I 0), (I 0), (I 0), (I 0), (I 0), (I 0), (I 0), (.i .u64 0), (I 0), (.i .u64 0)] [(0, K0, (.t 86)), (1, K0, (.t 87)), (2, K0, (.t 88))]),
 O 19 (.alloc (K1 11) (.a [(I 0), (I 0), (I 0), (I 0), (I 0), (I 0), (I 0), (I 0), (.i .u64 0), (I 0), (.i .u64 0)])),
 E (.store (K1 11) (.t 19) (.t 89))] [89, 3, 88, 12, 87, 2, 86]) (
 sq (sq (.reg [
 O 91 (.faddr 7 (.t 15)),
 O 92 (.load (K1 5) (.t 91)),
 O 93 (.faddr 0 (.t 16)),
 O 94 (.load (K1 2) (.t 93)),
 O 95 (.faddr 7 (.t 17)),
 O 96 (.load (K1 2) (.t 95)),
 O 97 (.call 0 27 [(.t 92), (.t 94), (.t 96)]),
 O 90 (.mov (.t 97)),
 O 98 (.ext (.t 90) 0),
 O 99 (.ext (.t 90) 1),
 O 100 (.ext (.t 90) 2),
 O 101 (.faddr 3 (.t 19)),
 E (.store K0 (.t 101) (.t 98)),
 O 102 (.faddr 7 (.t 19)),
 E (.store (K1 2) (.t 102) (.t 99)),
 O 14 (.mov (.t 100))] [102, 101, 100, 99, 98, 90, 97, 96, 95, 94, 93, 92, 91]) (
 sq (.reg [
 O 103 (.mov (.t 14)),
 O 104 (.bin .neq (.t 103) (.c (I 0)))] [103]) (
 .cond (.t 104) (sq (.reg [
 O 105 (.agg [(I 0), (I 0), (I 0), (I 0), (I 0), (I 0), (I 0), (I 0), (.i .u64 0), (I 0), (.i .u64 0)] []),
 O 106 (.mov (.t 14)),
 E (.store (K1 11) (.t 8) (.t 105)),
 O 9 (.mov (.t 106))] [14, 106, 105]) (
 .ret))
 (.skip)))) (
 sq (sq (.reg [
 O 108 (.faddr 12 (.t 15)),
 O 109 (.load (K1 5) (.t 108)),
 O 110 (.faddr 2 (.t 16)),
 O 111 (.load (K1 2) (.t 110)),
 O 112 (.faddr 9 (.t 17)),
 O 113 (.load (K1 2) (.t 112)),
 O 114 (.call 0 27 [(.t 109), (.t 111), (.t 113)]),
 O 107 (.mov (.t 114)),
 O 115 (.ext (.t 107) 0),
 O 116 (.ext (.t 107) 1),
 O 117 (.ext (.t 107) 2),
 O 118 (.faddr 4 (.t 19)),
 E (.store K0 (.t 118) (.t 115)),
 O 119 (.faddr 9 (.t 19)),
 E (.store (K1 2) (.t 119) (.t 116)),
 O 14 (.mov (.t 117))] [119, 118, 117, 116, 115, 107, 114, 113, 17, 112, 111, 16, 110, 109, 108]) (
 sq (.reg [
 O 120 (.mov (.t 14)),
 O 121 (.bin .neq (.t 120) (.c (I 0)))] [120]) (
 .cond (.t 121) (sq (.reg [
 O 122 (.agg [(I 0), (I 0), (I 0), (I 0), (I 0), (I 0), (I 0), (I 0), (.i .u64 0), (I 0), (.i .u64 0)] []),
 O 123 (.mov (.t 14)),
 E (.store (K1 11) (.t 8) (.t 122)),
 O 9 (.mov (.t 123))] [14, 123, 122]) (
 .ret))
 (.skip)))) (
 sq (sq (.reg [
 O 125 (.faddr 3 (.t 19)),
 O 126 (.load K0 (.t 125)),
 O 127 (.faddr 6 (.t 15)),
 O 128 (.load K0 (.t 127)),
 O 129 (.call 0 28 [(.t 126), (.t 128), (.c (I 1))]),
 O 124 (.mov (.t 129)),
 O 130 (.ext (.t 124) 0),
 O 131 (.ext (.t 124) 1),
 O 132 (.faddr 5 (.t 19)),
 E (.store K0 (.t 132) (.t 130)),
 O 14 (.mov (.t 131))] [132, 131, 130, 124, 129, 128, 15, 127, 126, 125]) (
 sq (.reg [
 O 133 (.mov (.t 14)),
 O 134 (.bin .neq (.t 133) (.c (I 0)))] [133]) (
 .cond (.t 134) (sq (.reg [
 O 135 (.agg [(I 0), (I 0), (I 0), (I 0), (I 0), (I 0), (I 0), (I 0), (.i .u64 0), (I 0), (.i .u64 0)] []),
 O 136 (.mov (.t 14)),
 E (.store (K1 11) (.t 8) (.t 135)),
 O 9 (.mov (.t 136))] [14, 136, 135]) (
 .ret))
 (.skip)))) (
 sq (.reg [
 O 137 (.load (K1 11) (.t 19)),
 E (.store (K1 11) (.t 8) (.t 137)),
 O 9 (.mov (.c (I 0)))] [19, 137]) (
 .ret)))))))))))))))))⟩
def F21 : PF := ⟨2, [.t 4],
 sq (.reg [
 O 3 (.box (K1 7) (.t 1)),
 O 4 (.mov (.c (I 0)))] [4, 1]) (
 sq (sq (.reg [
 O 8 (.mov (.t 0)),
 O 9 (.faddr 0 (.t 3)),
 O 10 (.load K0 (.t 9)),
 O 11 (.call 0 26 [(.t 8), (.t 10)]),
 O 7 (.mov (.t 11)),
 O 12 (.ext (.t 7) 0),
 O 13 (.ext (.t 7) 1),
 O 5 (.alloc (K1 11) (.a [(I 0), (I 0), (I 0), (I 0), (I 0), (I 0), (I 0), (I 0), (.i .u64 0), (I 0), (.i .u64 0)])),
 E (.store (K1 11) (.t 5) (.t 12)),
 O 6 (.mov (.t 13))] [13, 12, 7, 11, 10, 9, 0, 8]) (
 sq (.reg [
 O 14 (.mov (.t 6))] [6]) (
 .cond (.t 14) (sq (.reg [
 O 15 (.faddr 2 (.t 5)),
 O 16 (.load K0 (.t 15)),
 O 17 (.bin .add (.t 16) (.c (I 1))),
 O 4 (.mov (.t 17))] [17, 16, 5, 15]) (
 .ret))
 (.skip)))) (
 sq (.reg [
 O 18 (.faddr 1 (.t 3)),
 O 19 (.load K0 (.t 18)),
 O 4 (.mov (.t 19))] [19, 3, 18]) (
 .ret)))⟩
def L23_0 : PC :=
 sq (sq (.reg [
 O 51 (.mov (.t 14)),
 O 52 (.mov (.t 3)),
 O 53 (.bin .leq (.t 51) (.t 52))] [52, 51]) (
 .cond (.t 53) (.skip)
 (.exit 0))) (
 sq (.block 1 (
 .reg [
 O 56 (.mov (.t 13)),
 O 57 (.mov (.t 12)),
 O 58 (.mov (.t 14)),
 O 59 (.callv (.t 57) [(.t 58)]),
 O 60 (.bsl (K1 7) (.a [(I 0), (I 0), (I 0), (I 0), (.i .u64 0), (I 0), (.i .u64 0)]) 1 [(0, (.t 59))]),
 O 61 (.app (K1 7) 56 (.t 56) (.t 60)),
 O 13 (.mov (.t 61))] [61, 60, 59, 58, 57, 56])) (
 .reg [
 O 54 (.mov (.t 14)),
 O 55 (.bin .add (.t 54) (.c (I 1))),
 O 14 (.mov (.t 55))] [55, 54]))
def F23 : PF := ⟨4, [.t 8, .t 9],
 sq (.reg [
 O 4 (.box (K1 22) (.t 0)),
 O 8 (.mov (.c (.l (K1 7) [] true))),
 O 9 (.mov (.c (I 0)))] [9, 8, 0]) (
 sq (sq (.reg [
 O 16 (.load (K1 22) (.t 4)),
 O 17 (.mov (.t 1)),
 O 18 (.call 0 12 [(.t 16), (.t 17)]),
 O 15 (.mov (.t 18)),
 O 19 (.ext (.t 15) 0),
 O 20 (.ext (.t 15) 1),
 O 10 (.alloc (K1 7) (.a [(I 0), (I 0), (I 0), (I 0), (.s []), (.s []), (.s [])])),
 E (.store (K1 7) (.t 10) (.t 19)),
 O 11 (.mov (.t 20))] [10, 20, 19, 15, 18, 17, 16]) (
 sq (.reg [
 O 21 (.mov (.t 11)),
 O 22 (.un .not (.t 21))] [11, 21]) (
 .cond (.t 22) (sq (.reg [
 O 8 (.mov (.c (.l (K1 7) [] true))),
 O 9 (.mov (.c (I 11)))] []) (
 .ret))
 (.skip)))) (
 sq (sq (.reg [
 O 23 (.mov (.t 2)),
 O 24 (.call 0 22 [(.t 23)]),
 O 25 (.un .not (.t 24)),
 O 26 (.mov (.t 25)),
 OG 27 26 false (.mov (.t 3)),
 OG 28 26 false (.call 0 22 [(.t 27)]),
 OG 29 26 false (.un .not (.t 28)),
 O 30 (.pick (.t 26) (.c (.b true)) (.t 29)),
 O 31 (.mov (.t 30)),
 OG 32 31 false (.mov (.t 2)),
 OG 33 31 false (.mov (.t 3)),
 OG 34 31 false (.bin .gtr (.t 32) (.t 33)),
 O 35 (.pick (.t 31) (.c (.b true)) (.t 34)),
 O 36 (.mov (.t 35)),
 OG 37 36 false (.mov (.t 3)),
 OG 38 36 false (.mov (.t 2)),
 OG 39 36 false (.bin .sub (.t 37) (.t 38)),
 OG 40 36 false (.bin .geq (.t 39) (.c (I 4000))),
 O 41 (.pick (.t 36) (.c (.b true)) (.t 40))] [40, 39, 38, 37, 36, 35, 34, 33, 32, 31, 30, 29, 28, 27, 26, 25, 24, 23]) (
 .cond (.t 41) (sq (.reg [
 O 8 (.mov (.c (.l (K1 7) [] true))),
 O 9 (.mov (.c (I 1)))] []) (
 .ret))
 (.skip))) (
 sq (.reg [
 O 42 (.load (K1 22) (.t 4)),
 O 43 (.mov (.t 1)),
 O 44 (.call 2 29 [(.t 42), (.t 43)]),
 O 12 (.mov (.t 44))] [44, 1, 43, 4, 42]) (
 sq (.reg [
 O 45 (.mov (.t 3)),
 O 46 (.mov (.t 2)),
 O 47 (.bin .sub (.t 45) (.t 46)),
 O 48 (.bin .add (.t 47) (.c (I 1))),
 O 49 (.mksl (K1 7) 56 (.a [(I 0), (I 0), (I 0), (I 0), (.i .u64 0), (I 0), (.i .u64 0)]) (.c (I 0)) (.t 48)),
 O 13 (.mov (.t 49))] [49, 48, 47, 46, 45]) (
 sq (sq (.reg [
 O 50 (.mov (.t 2)),
 O 14 (.mov (.t 50))] [2, 50]) (
 .block 0 (
 .loop [3, 12, 13, 14] L23_0))) (
 sq (.reg [
 O 62 (.mov (.t 13)),
 O 8 (.mov (.t 62)),
 O 9 (.mov (.c (I 0)))] [13, 62]) (
 .ret)))))))⟩
def L25_0 : PC :=
 sq (.reg [
 O 16 (.bin .lss (.t 15) (.t 14))] []) (
 sq (.cond (.t 16) (.skip)
 (.exit 0)) (
 sq (.block 1 (
 sq (.reg [
 O 17 (.iaddr (K1 7) (.t 13) (.t 15)),
 O 18 (.load (K1 7) (.t 17)),
 O 8 (.alloc (K1 7) (.a [(I 0), (I 0), (I 0), (I 0), (.i .u64 0), (I 0), (.i .u64 0)])),
 E (.store (K1 7) (.t 8) (.t 18))] [18, 17]) (
 sq (.reg [
 O 20 (.load (K1 2) (.t 5)),
 O 21 (.faddr 3 (.t 8)),
 O 22 (.load (K1 2) (.t 21)),
 O 23 (.call 0 31 [(.t 20), (.t 22)]),
 O 19 (.mov (.t 23)),
 O 24 (.ext (.t 19) 0),
 O 25 (.ext (.t 19) 1),
 O 9 (.alloc (K1 2) (.a [(I 0), (.i .u64 0)])),
 E (.store (K1 2) (.t 9) (.t 24)),
 O 10 (.mov (.t 25))] [25, 24, 19, 23, 22, 21, 20]) (
 sq (.reg [
 O 27 (.load (K1 2) (.t 6)),
 O 28 (.faddr 5 (.t 8)),
 O 29 (.load (K1 2) (.t 28)),
 O 30 (.call 0 31 [(.t 27), (.t 29)]),
 O 26 (.mov (.t 30)),
 O 31 (.ext (.t 26) 0),
 O 32 (.ext (.t 26) 1),
 O 11 (.alloc (K1 2) (.a [(I 0), (.i .u64 0)])),
 E (.store (K1 2) (.t 11) (.t 31)),
 O 12 (.mov (.t 32))] [32, 31, 26, 30, 29, 8, 28, 27]) (
 sq (sq (.reg [
 O 33 (.mov (.t 10)),
 O 34 (.bin .neq (.t 33) (.c (I 0))),
 O 35 (.mov (.t 34)),
 OG 36 35 false (.mov (.t 12)),
 OG 37 35 false (.bin .neq (.t 36) (.c (I 0))),
 O 38 (.pick (.t 35) (.c (.b true)) (.t 37))] [37, 12, 36, 35, 34, 10, 33]) (
 .cond (.t 38) (sq (.reg [
 O 39 (.agg [(I 0), (.i .u64 0)] []),
 O 40 (.agg [(I 0), (.i .u64 0)] []),
 E (.store (K1 2) (.t 2) (.t 39)),
 E (.store (K1 2) (.t 3) (.t 40)),
 O 4 (.mov (.c (I 6)))] [40, 39]) (
 .ret))
 (.skip))) (
 .regD [
 O 41 (.load (K1 2) (.t 9)),
 O 42 (.load (K1 2) (.t 11)),
 E (.store (K1 2) (.t 5) (.t 41)),
 E (.store (K1 2) (.t 6) (.t 42))] [0, 0, 1, 7] [11, 42, 9, 41])))))) (
 .reg [
 O 43 (.bin .add (.t 15) (.c (I 1))),
 O 15 (.mov (.t 43))] [43])))
def F25 : PF := ⟨1, [.c 2 (K1 2), .c 3 (K1 2), .t 4],
 sq (.reg [
 O 2 (.alloc (K1 2) (.a [(I 0), (.i .u64 0)])),
 O 3 (.alloc (K1 2) (.a [(I 0), (.i .u64 0)])),
 O 4 (.mov (.c (I 0)))] [4]) (
 sq (.reg [
 O 5 (.alloc (K1 2) (.a [(I 0), (.i .u64 0)])),
 O 6 (.alloc (K1 2) (.a [(I 0), (.i .u64 0)]))] []) (
 sq (sq (.reg [
 O 13 (.mov (.t 0)),
 O 14 (.len false (.t 13)),
 O 15 (.mov (.c (I 0)))] [0]) (
 .block 0 (
 .loop [2, 3, 5, 6, 13, 14, 15] L25_0))) (
 sq (.regD [
 O 44 (.load (K1 2) (.t 5)),
 O 45 (.load (K1 2) (.t 6)),
 E (.store (K1 2) (.t 2) (.t 44)),
 E (.store (K1 2) (.t 3) (.t 45)),
 O 4 (.mov (.c (I 0)))] [0, 0, 1, 7, 15] [6, 45, 5, 44]) (
 .ret))))⟩
def F27 : PF := ⟨3, [.t 6, .c 7 (K1 2), .t 8],
 sq (.reg [
 O 3 (.box (K1 5) (.t 0)),
 O 4 (.box (K1 2) (.t 1)),
 O 5 (.box (K1 2) (.t 2)),
 O 6 (.mov (.c (I 0))),
 O 7 (.alloc (K1 2) (.a [(I 0), (.i .u64 0)])),
 O 8 (.mov (.c (I 0)))] [8, 6, 2, 1, 0]) (
 sq (sq (.reg [
 O 14 (.faddr 4 (.t 3)),
 O 15 (.load K0 (.t 14))] [14]) (
 .cond (.t 15) (sq (.reg [
 O 17 (.load (K1 2) (.t 4)),
 O 18 (.load (K1 2) (.t 5)),
 O 19 (.call 0 31 [(.t 17), (.t 18)]),
 O 16 (.mov (.t 19)),
 O 20 (.ext (.t 16) 0),
 O 21 (.ext (.t 16) 1),
 O 9 (.alloc (K1 2) (.a [(I 0), (.i .u64 0)])),
 E (.store (K1 2) (.t 9) (.t 20)),
 O 10 (.mov (.t 21))] [21, 20, 16, 19, 5, 18, 17]) (
 sq (sq (.reg [
 O 22 (.mov (.t 10)),
 O 23 (.bin .neq (.t 22) (.c (I 0)))] [22]) (
 .cond (.t 23) (sq (.reg [
 O 24 (.agg [(I 0), (.i .u64 0)] []),
 O 25 (.mov (.t 10)),
 O 6 (.mov (.c (I 0))),
 E (.store (K1 2) (.t 7) (.t 24)),
 O 8 (.mov (.t 25))] [10, 25, 24]) (
 .ret))
 (.skip))) (
 .reg [
 O 26 (.load (K1 2) (.t 9)),
 E (.store (K1 2) (.t 4) (.t 26))] [9, 26])))
 (.skip))) (
 sq (.regD [
 O 27 (.load (K1 2) (.t 4)),
 O 12 (.alloc (K1 2) (.a [(I 0), (.i .u64 0)])),
 O 11 (.mov (.c (I 0))),
 E (.store (K1 2) (.t 12) (.t 27))] [0, 0, 2, 7] [27]) (
 sq (sq (.reg [
 O 28 (.load (K1 2) (.t 4)),
 O 29 (.agg [(I 0), (.i .u64 0)] []),
 O 30 (.call 0 32 [(.t 28), (.t 29)]),
 O 31 (.bin .geq (.t 30) (.c (I 0)))] [30, 29, 28]) (
 .cond (.t 31) (sq (.reg [
 O 13 (.mov (.c (I 0)))] [13]) (
 sq (.reg [
 O 33 (.load (K1 2) (.t 4)),
 O 34 (.faddr 3 (.t 3)),
 O 35 (.load K0 (.t 34)),
 O 36 (.call 0 33 [(.t 33), (.t 35)]),
 O 32 (.mov (.t 36)),
 O 37 (.ext (.t 32) 0),
 O 38 (.ext (.t 32) 1),
 O 39 (.ext (.t 32) 2),
 O 11 (.mov (.t 37)),
 E (.store (K1 2) (.t 12) (.t 38)),
 O 13 (.mov (.t 39))] [39, 38, 37, 32, 36, 35, 34, 4, 33]) (
 sq (.reg [
 O 40 (.mov (.t 13)),
 O 41 (.bin .neq (.t 40) (.c (I 0)))] [40]) (
 .cond (.t 41) (sq (.reg [
 O 42 (.agg [(I 0), (.i .u64 0)] []),
 O 43 (.mov (.t 13)),
 O 6 (.mov (.c (I 0))),
 E (.store (K1 2) (.t 7) (.t 42)),
 O 8 (.mov (.t 43))] [13, 43, 42]) (
 .ret))
 (.skip)))))
 (.skip))) (
 sq (sq (.reg [
 O 44 (.faddr 4 (.t 3)),
 O 45 (.load K0 (.t 44)),
 O 46 (.un .not (.t 45))] [45, 3, 44]) (
 .cond (.t 46) (.reg [
 O 47 (.agg [(I 0), (.i .u64 0)] []),
 E (.store (K1 2) (.t 12) (.t 47))] [47])
 (.skip))) (
 sq (.regD [
 O 48 (.mov (.t 11)),
 O 49 (.load (K1 2) (.t 12)),
 O 6 (.mov (.t 48)),
 E (.store (K1 2) (.t 7) (.t 49)),
 O 8 (.mov (.c (I 0)))] [0, 0, 1, 7, 15] [12, 49, 11, 48]) (
 .ret))))))⟩
def F28 : PF := ⟨3, [.t 6, .t 7],
 sq (.reg [
 O 6 (.mov (.c (I 0))),
 O 7 (.mov (.c (I 0)))] [7, 6]) (
 sq (sq (.reg [
 O 8 (.mov (.t 0)),
 O 9 (.call 0 34 [(.t 8)]),
 O 10 (.un .not (.t 9)),
 O 11 (.mov (.t 10)),
 OG 12 11 false (.mov (.t 1)),
 OG 13 11 false (.bin .lss (.t 12) (.c (I 0))),
 O 14 (.pick (.t 11) (.c (.b true)) (.t 13)),
 O 15 (.mov (.t 14)),
 OG 16 15 false (.mov (.t 1)),
 OG 17 15 false (.bin .gtr (.t 16) (.c (I 1000000))),
 O 18 (.pick (.t 15) (.c (.b true)) (.t 17)),
 O 19 (.mov (.t 18)),
 OG 20 19 false (.mov (.t 2)),
 OG 21 19 false (.call 0 35 [(.t 20)]),
 OG 22 19 false (.un .not (.t 21)),
 O 23 (.pick (.t 19) (.c (.b true)) (.t 22))] [22, 21, 20, 19, 18, 17, 16, 15, 14, 13, 12, 11, 10, 9, 8]) (
 .cond (.t 23) (sq (.reg [
 O 6 (.mov (.c (I 0))),
 O 7 (.mov (.c (I 1)))] []) (
 .ret))
 (.skip))) (
 sq (.reg [
 O 24 (.mov (.t 0)),
 O 25 (.mov (.t 1)),
 O 26 (.call 0 37 [(.t 24), (.t 25)]),
 O 27 (.mov (.t 2)),
 O 28 (.call 0 36 [(.t 26), (.c (I 1000000)), (.t 27)]),
 O 29 (.ext (.t 28) 0),
 O 30 (.ext (.t 28) 1),
 O 6 (.mov (.t 29)),
 O 7 (.mov (.t 30))] [30, 29, 28, 2, 27, 26, 1, 25, 0, 24]) (
 .ret)))⟩
def F29 : PF := ⟨2, [.t 4],
 sq (.reg [
 O 2 (.box (K1 22) (.t 0)),
 O 3 (.box K0 (.t 1)),
 O 4 (.mov (.c .nf))] [4, 1, 0]) (
 sq (.reg [
 O 5 (.mkf 38 [(.t 3), (.t 2)]),
 O 4 (.mov (.t 5))] [2, 3, 5]) (
 .ret))⟩
def F31 : PF := ⟨2, [.c 4 (K1 2), .t 5],
 sq (.reg [
 O 2 (.box (K1 2) (.t 0)),
 O 3 (.box (K1 2) (.t 1)),
 O 4 (.alloc (K1 2) (.a [(I 0), (.i .u64 0)])),
 O 5 (.mov (.c (I 0)))] [5, 1, 0]) (
 sq (.reg [
 O 10 (.faddr 1 (.t 2)),
 O 11 (.load K0 (.t 10)),
 O 12 (.faddr 1 (.t 3)),
 O 13 (.load K0 (.t 12)),
 O 14 (.prim 0 [(.t 11), (.t 13), (.c (.i .u64 0))]),
 O 9 (.mov (.t 14)),
 O 15 (.ext (.t 9) 0),
 O 16 (.ext (.t 9) 1),
 O 6 (.mov (.t 15)),
 O 7 (.mov (.t 16))] [16, 15, 9, 14, 13, 12, 11, 10]) (
 sq (.reg [
 O 17 (.faddr 0 (.t 2)),
 O 18 (.load K0 (.t 17)),
 O 19 (.faddr 0 (.t 3)),
 O 20 (.load K0 (.t 19)),
 O 21 (.bin .add (.t 18) (.t 20)),
 O 22 (.mov (.t 7)),
 O 23 (.conv .i64 (.t 22)),
 O 24 (.bin .add (.t 21) (.t 23)),
 O 8 (.mov (.t 24))] [24, 23, 7, 22, 21, 20, 19, 18, 17]) (
 sq (sq (.reg [
 O 25 (.faddr 0 (.t 2)),
 O 26 (.load K0 (.t 25)),
 O 27 (.bin .lss (.t 26) (.c (I 0))),
 O 28 (.faddr 0 (.t 3)),
 O 29 (.load K0 (.t 28)),
 O 30 (.bin .lss (.t 29) (.c (I 0))),
 O 31 (.eqb false (.t 27) (.t 30)),
 O 32 (.mov (.t 31)),
 OG 33 32 true (.mov (.t 8)),
 OG 34 32 true (.bin .lss (.t 33) (.c (I 0))),
 OG 35 32 true (.faddr 0 (.t 2)),
 OG 36 32 true (.load K0 (.t 35)),
 OG 37 32 true (.bin .lss (.t 36) (.c (I 0))),
 OG 38 32 true (.eqb true (.t 34) (.t 37)),
 O 39 (.pick (.t 32) (.t 38) (.c (.b false)))] [38, 37, 36, 35, 34, 33, 32, 31, 30, 29, 3, 28, 27, 26, 2, 25]) (
 .cond (.t 39) (sq (.reg [
 O 40 (.agg [(I 0), (.i .u64 0)] []),
 E (.store (K1 2) (.t 4) (.t 40)),
 O 5 (.mov (.c (I 6)))] [40]) (
 .ret))
 (.skip))) (
 sq (.reg [
 O 41 (.mov (.t 8)),
 O 42 (.mov (.t 6)),
 O 43 (.agg [(I 0), (.i .u64 0)] [(0, K0, (.t 41)), (1, K0, (.t 42))]),
 E (.store (K1 2) (.t 4) (.t 43)),
 O 5 (.mov (.c (I 0)))] [43, 6, 42, 8, 41]) (
 .ret)))))⟩
def F32 : PF := ⟨2, [.t 4],
 sq (.reg [
 O 2 (.box (K1 2) (.t 0)),
 O 3 (.box (K1 2) (.t 1)),
 O 4 (.mov (.c (I 0)))] [4, 1, 0]) (
 sq (.block 0 (
 sq (.reg [
 O 6 (.load (K1 2) (.t 2)),
 O 7 (.load (K1 2) (.t 3)),
 O 8 (.eqv false [1, 1] (.t 6) (.t 7)),
 O 5 (.mov (.t 8))] [8, 7, 6]) (
 .cond (.t 5) (sq (.reg [
 O 4 (.mov (.c (I 0)))] []) (
 .ret))
 (sq (.reg [
 O 10 (.faddr 0 (.t 2)),
 O 11 (.load K0 (.t 10)),
 O 12 (.faddr 0 (.t 3)),
 O 13 (.load K0 (.t 12)),
 O 14 (.bin .lss (.t 11) (.t 13)),
 O 15 (.mov (.t 14)),
 OG 16 15 false (.faddr 0 (.t 2)),
 OG 17 15 false (.load K0 (.t 16)),
 OG 18 15 false (.faddr 0 (.t 3)),
 OG 19 15 false (.load K0 (.t 18)),
 OG 20 15 false (.bin .eql (.t 17) (.t 19)),
 OG 21 15 false (.mov (.t 20)),
 OG 22 21 true (.faddr 1 (.t 2)),
 OG 23 21 true (.load K0 (.t 22)),
 OG 24 21 true (.faddr 1 (.t 3)),
 OG 25 21 true (.load K0 (.t 24)),
 OG 26 21 true (.bin .lss (.t 23) (.t 25)),
 OG 27 15 false (.pick (.t 21) (.t 26) (.c (.b false))),
 O 28 (.pick (.t 15) (.c (.b true)) (.t 27)),
 O 9 (.mov (.t 28))] [28, 27, 26, 25, 24, 23, 22, 21, 20, 19, 18, 17, 16, 15, 14, 13, 3, 12, 11, 2, 10]) (
 .cond (.t 9) (sq (.reg [
 O 4 (.mov (.c (I (-1))))] []) (
 .ret))
 (.skip)))))) (
 sq (.reg [
 O 4 (.mov (.c (I 1)))] []) (
 .ret)))⟩
def F33 : PF := ⟨2, [.t 4, .c 5 (K1 2), .t 6],
 sq (.reg [
 O 2 (.box (K1 2) (.t 0)),
 O 4 (.mov (.c (I 0))),
 O 5 (.alloc (K1 2) (.a [(I 0), (.i .u64 0)])),
 O 6 (.mov (.c (I 0)))] [6, 4, 0]) (
 sq (.reg [
 O 12 (.load (K1 2) (.t 2)),
 O 13 (.mov (.t 1)),
 O 14 (.call 0 36 [(.t 12), (.c (I 1603080000000)), (.t 13)]),
 O 11 (.mov (.t 14)),
 O 15 (.ext (.t 11) 0),
 O 16 (.ext (.t 11) 1),
 O 7 (.mov (.t 15)),
 O 8 (.mov (.t 16))] [16, 15, 11, 14, 1, 13, 12]) (
 sq (sq (.reg [
 O 17 (.mov (.t 8)),
 O 18 (.bin .neq (.t 17) (.c (I 0)))] [17]) (
 .cond (.t 18) (sq (.reg [
 O 19 (.agg [(I 0), (.i .u64 0)] []),
 O 20 (.mov (.t 8)),
 O 4 (.mov (.c (I 0))),
 E (.store (K1 2) (.t 5) (.t 19)),
 O 6 (.mov (.t 20))] [8, 20, 19]) (
 .ret))
 (.skip))) (
 sq (sq (.reg [
 O 21 (.mov (.t 7)),
 O 22 (.call 0 34 [(.t 21)]),
 O 23 (.un .not (.t 22))] [22, 21]) (
 .cond (.t 23) (sq (.reg [
 O 24 (.agg [(I 0), (.i .u64 0)] []),
 O 4 (.mov (.c (I 0))),
 E (.store (K1 2) (.t 5) (.t 24)),
 O 6 (.mov (.c (I 6)))] [24]) (
 .ret))
 (.skip))) (
 sq (.regD [
 O 26 (.load (K1 2) (.t 2)),
 O 27 (.mov (.t 7)),
 O 28 (.call 0 37 [(.t 27), (.c (I 1603080000000))]),
 O 29 (.call 0 42 [(.t 26), (.t 28)]),
 O 25 (.mov (.t 29)),
 O 30 (.ext (.t 25) 0),
 O 31 (.ext (.t 25) 1),
 O 9 (.alloc (K1 2) (.a [(I 0), (.i .u64 0)])),
 E (.store (K1 2) (.t 9) (.t 30)),
 O 10 (.mov (.t 31))] [0, 0, 2, 7, 15, 31, 31, 0, 191, 511] [10, 31, 30, 25, 29, 28, 27, 2, 26]) (
 sq (.regD [
 O 32 (.mov (.t 7)),
 O 33 (.load (K1 2) (.t 9)),
 O 4 (.mov (.t 32)),
 E (.store (K1 2) (.t 5) (.t 33)),
 O 6 (.mov (.c (I 0)))] [0, 0, 1, 7, 15] [9, 33, 7, 32]) (
 .ret))))))⟩
def F34 : PF := ⟨1, [.t 2],
 sq (.reg [
 O 2 (.mov (.c (.b false)))] [2]) (
 sq (.reg [
 O 3 (.mov (.t 0)),
 O 4 (.bin .geq (.t 3) (.c (I (-1000000000000)))),
 O 5 (.mov (.t 4)),
 OG 6 5 true (.mov (.t 0)),
 OG 7 5 true (.bin .leq (.t 6) (.c (I 1000000000000))),
 O 8 (.pick (.t 5) (.t 7) (.c (.b false))),
 O 2 (.mov (.t 8))] [8, 7, 6, 5, 4, 0, 3]) (
 .ret))⟩
def F35 : PF := ⟨1, [.t 2],
 sq (.reg [
 O 2 (.mov (.c (.b false)))] [2]) (
 sq (.reg [
 O 3 (.mov (.t 0)),
 O 4 (.bin .geq (.t 3) (.c (I 1))),
 O 5 (.mov (.t 4)),
 OG 6 5 true (.mov (.t 0)),
 OG 7 5 true (.bin .leq (.t 6) (.c (I 6))),
 O 8 (.pick (.t 5) (.t 7) (.c (.b false))),
 O 2 (.mov (.t 8))] [8, 7, 6, 5, 4, 0, 3]) (
 .ret))⟩
def F36 : PF := ⟨3, [.t 6, .t 7],
 sq (.reg [
 O 3 (.box (K1 2) (.t 0)),
 O 6 (.mov (.c (I 0))),
 O 7 (.mov (.c (I 0)))] [7, 6, 0]) (
 sq (sq (.reg [
 O 13 (.mov (.t 1)),
 O 14 (.bin .lss (.t 13) (.c (I 1))),
 O 15 (.mov (.t 14)),
 OG 16 15 false (.mov (.t 2)),
 OG 17 15 false (.call 0 35 [(.t 16)]),
 OG 18 15 false (.un .not (.t 17)),
 O 19 (.pick (.t 15) (.c (.b true)) (.t 18))] [18, 17, 16, 15, 14, 13]) (
 .cond (.t 19) (sq (.reg [
 O 6 (.mov (.c (I 0))),
 O 7 (.mov (.c (I 1)))] []) (
 .ret))
 (.skip))) (
 sq (.reg [
 O 21 (.load (K1 2) (.t 3)),
 O 22 (.mov (.t 1)),
 O 23 (.call 0 43 [(.t 21), (.t 22)]),
 O 20 (.mov (.t 23)),
 O 24 (.ext (.t 20) 0),
 O 25 (.ext (.t 20) 1),
 O 26 (.ext (.t 20) 2),
 O 8 (.alloc (K1 2) (.a [(I 0), (.i .u64 0)])),
 E (.store (K1 2) (.t 8) (.t 24)),
 O 9 (.mov (.t 25)),
 O 10 (.mov (.t 26))] [10, 26, 25, 24, 20, 23, 22, 3, 21]) (
 sq (sq (.reg [
 O 27 (.mov (.t 9)),
 O 28 (.bin .gtr (.t 27) (.c (I 0)))] [27]) (
 .cond (.t 28) (.regD [
 O 30 (.load (K1 2) (.t 8)),
 O 31 (.load (K1 2) (.t 8)),
 O 32 (.mov (.t 9)),
 O 33 (.mov (.t 1)),
 O 34 (.mov (.t 2)),
 O 35 (.call 0 45 [(.t 31), (.t 32), (.t 33), (.t 34)]),
 O 36 (.call 0 44 [(.t 35)]),
 O 37 (.call 0 31 [(.t 30), (.t 36)]),
 O 29 (.mov (.t 37)),
 O 38 (.ext (.t 29) 0),
 O 39 (.ext (.t 29) 1),
 E (.store (K1 2) (.t 8) (.t 38))] [0, 0, 0, 0, 0, 30, 62, 127, 255, 511, 511, 1023] [39, 38, 29, 37, 36, 35, 2, 34, 1, 33, 9, 32, 31, 30])
 (.skip))) (
 sq (.reg [
 O 41 (.load (K1 2) (.t 8)),
 O 42 (.call 0 46 [(.t 41)]),
 O 40 (.mov (.t 42)),
 O 43 (.ext (.t 40) 0),
 O 44 (.ext (.t 40) 1),
 O 11 (.mov (.t 43)),
 O 12 (.mov (.t 44))] [44, 43, 40, 42, 8, 41]) (
 sq (sq (.reg [
 O 45 (.mov (.t 12)),
 O 46 (.un .not (.t 45))] [12, 45]) (
 .cond (.t 46) (sq (.reg [
 O 6 (.mov (.c (I 0))),
 O 7 (.mov (.c (I 6)))] []) (
 .ret))
 (.skip))) (
 sq (.reg [
 O 47 (.mov (.t 11)),
 O 6 (.mov (.t 47)),
 O 7 (.mov (.c (I 0)))] [11, 47]) (
 .ret)))))))⟩
def F37 : PF := ⟨2, [.c 4 (K1 2)],
 sq (.reg [
 O 4 (.alloc (K1 2) (.a [(I 0), (.i .u64 0)]))] []) (
 sq (.reg [
 O 9 (.mov (.t 0)),
 O 10 (.call 0 48 [(.t 9)]),
 O 11 (.mov (.t 1)),
 O 12 (.call 0 48 [(.t 11)]),
 O 13 (.call 0 47 [(.t 10), (.t 12)]),
 O 8 (.mov (.t 13)),
 O 14 (.ext (.t 8) 0),
 O 15 (.ext (.t 8) 1),
 O 5 (.mov (.t 14)),
 O 6 (.mov (.t 15))] [15, 14, 8, 13, 12, 11, 10, 9]) (
 sq (.reg [
 O 16 (.mov (.t 5)),
 O 17 (.conv .i64 (.t 16)),
 O 18 (.mov (.t 6)),
 O 19 (.agg [(I 0), (.i .u64 0)] [(0, K0, (.t 17)), (1, K0, (.t 18))]),
 O 7 (.alloc (K1 2) (.a [(I 0), (.i .u64 0)])),
 E (.store (K1 2) (.t 7) (.t 19))] [19, 6, 18, 17, 5, 16]) (
 sq (sq (.reg [
 O 20 (.mov (.t 0)),
 O 21 (.bin .lss (.t 20) (.c (I 0))),
 O 22 (.mov (.t 1)),
 O 23 (.bin .lss (.t 22) (.c (I 0))),
 O 24 (.eqb true (.t 21) (.t 23))] [23, 1, 22, 21, 0, 20]) (
 .cond (.t 24) (.reg [
 O 25 (.load (K1 2) (.t 7)),
 O 26 (.call 0 49 [(.t 25)]),
 E (.store (K1 2) (.t 7) (.t 26))] [26, 25])
 (.skip))) (
 sq (.reg [
 O 27 (.load (K1 2) (.t 7)),
 E (.store (K1 2) (.t 4) (.t 27))] [7, 27]) (
 .ret)))))⟩
def F38 : PF := ⟨3, [.c 4 (K1 7)],
 sq (.reg [
 O 4 (.alloc (K1 7) (.a [(I 0), (I 0), (I 0), (I 0), (.i .u64 0), (I 0), (.i .u64 0)]))] []) (
 sq (.reg [
 O 8 (.load K0 (.t 1)),
 O 9 (.mov (.t 0)),
 O 10 (.agg [(I 0), (I 0), (I 0), (I 0), (.i .u64 0), (I 0), (.i .u64 0)] [(0, K0, (.t 8)), (1, K0, (.t 9))]),
 O 5 (.alloc (K1 7) (.a [(I 0), (I 0), (I 0), (I 0), (.i .u64 0), (I 0), (.i .u64 0)])),
 E (.store (K1 7) (.t 5) (.t 10))] [10, 9, 8]) (
 sq (sq (.reg [
 O 11 (.load (K1 22) (.t 2)),
 O 12 (.load K0 (.t 1)),
 O 13 (.mov (.t 0)),
 O 14 (.call 0 39 [(.t 11), (.t 12), (.t 13)]),
 O 15 (.un .not (.t 14))] [14, 13, 12, 11]) (
 .cond (.t 15) (sq (.reg [
 O 16 (.load (K1 7) (.t 5)),
 E (.store (K1 7) (.t 4) (.t 16))] [5, 16]) (
 .ret))
 (.skip))) (
 sq (.reg [
 O 17 (.faddr 19 (.t 2)),
 O 18 (.load K0 (.t 17)),
 O 19 (.load K0 (.t 1)),
 O 20 (.mov (.t 0)),
 O 21 (.call 0 40 [(.t 18), (.t 19), (.c (I 73048)), (.t 20)]),
 O 22 (.faddr 2 (.t 5)),
 E (.store K0 (.t 22) (.t 21))] [22, 21, 20, 19, 18, 17]) (
 sq (.reg [
 O 24 (.load (K1 22) (.t 2)),
 O 25 (.load K0 (.t 1)),
 O 26 (.mov (.t 0)),
 O 27 (.call 0 24 [(.t 24), (.t 25), (.t 26)]),
 O 23 (.mov (.t 27)),
 O 28 (.ext (.t 23) 0),
 O 29 (.ext (.t 23) 1),
 O 6 (.alloc (K1 19) (.a [(.s []), (.s []), (.s []), (I 0), (I 0), (I 0), (I 0), (.l (K1 2) [] true), (.b false), (I 0), (I 0), (.b false), (.l (K1 2) [] true), (.b false), (I 0), (I 0), (.b false), (.l (K1 10) [] true), (.l (K1 6) [] true)])),
 E (.store (K1 19) (.t 6) (.t 28)),
 O 7 (.mov (.t 29))] [29, 28, 23, 27, 26, 1, 25, 2, 24]) (
 sq (.block 0 (
 sq (.reg [
 O 31 (.mov (.t 7)),
 O 32 (.un .not (.t 31)),
 O 30 (.mov (.t 32))] [32, 7, 31]) (
 .cond (.t 30) (.skip)
 (sq (.reg [
 O 34 (.faddr 2 (.t 5)),
 O 35 (.load K0 (.t 34)),
 O 36 (.bin .gtr (.t 35) (.c (I 0))),
 O 33 (.mov (.t 36))] [36, 35, 34]) (
 .cond (.t 33) (.reg [
 O 37 (.load (K1 19) (.t 6)),
 O 38 (.faddr 2 (.t 5)),
 O 39 (.load K0 (.t 38)),
 O 40 (.mov (.t 0)),
 O 41 (.call 0 41 [(.t 37), (.t 39), (.t 40)]),
 O 42 (.faddr 3 (.t 5)),
 E (.store (K1 2) (.t 42) (.t 41))] [42, 41, 0, 40, 39, 38, 6, 37])
 (sq (.reg [
 O 44 (.faddr 2 (.t 5)),
 O 45 (.load K0 (.t 44)),
 O 46 (.bin .lss (.t 45) (.c (I 0))),
 O 43 (.mov (.t 46))] [46, 45, 44]) (
 .cond (.t 43) (.reg [
 O 47 (.load (K1 19) (.t 6)),
 O 48 (.faddr 2 (.t 5)),
 O 49 (.load K0 (.t 48)),
 O 50 (.mov (.t 0)),
 O 51 (.call 0 41 [(.t 47), (.t 49), (.t 50)]),
 O 52 (.faddr 5 (.t 5)),
 E (.store (K1 2) (.t 52) (.t 51))] [52, 51, 0, 50, 49, 48, 6, 47])
 (.skip)))))))) (
 sq (.reg [
 O 53 (.load (K1 7) (.t 5)),
 E (.store (K1 7) (.t 4) (.t 53))] [5, 53]) (
 .ret)))))))⟩
def L40_0 : PC :=
 sq (.reg [
 O 10 (.alloc (K1 10) (.a [(I 0), (I 0), (I 0), (I 0), (I 0), (I 0), (.s []), (.s []), (.l (K1 3) [] true), (.i .u64 0)])),
 E (.store (K1 10) (.t 10) (.t 15))] [15]) (
 .reg [
 O 11 (.mov (.t 16))] [16])
def L40_1 : PC :=
 .block 1 (
 sq (.reg [
 O 17 (.faddr 1 (.t 10)),
 O 18 (.load K0 (.t 17)),
 O 19 (.load K0 (.t 6)),
 O 20 (.bin .leq (.t 18) (.t 19)),
 O 21 (.mov (.t 20)),
 OG 22 21 true (.faddr 2 (.t 10)),
 OG 23 21 true (.load K0 (.t 22)),
 OG 24 21 true (.load K0 (.t 7)),
 OG 25 21 true (.bin .leq (.t 23) (.t 24)),
 O 26 (.pick (.t 21) (.t 25) (.c (.b false)))] [25, 7, 24, 23, 22, 21, 20, 6, 19, 18, 10, 17]) (
 .cond (.t 26) (.reg [
 O 27 (.load K0 (.t 9)),
 O 28 (.mov (.t 11)),
 O 29 (.bin .sub (.t 27) (.t 28)),
 E (.store K0 (.t 9) (.t 29))] [29, 11, 28, 9, 27])
 (.skip)))
def F40 : PF := ⟨4, [.t 8],
 sq (.reg [
 O 6 (.box K0 (.t 2)),
 O 7 (.box K0 (.t 3)),
 O 8 (.mov (.c (I 0)))] [8, 3, 2]) (
 sq (.reg [
 O 9 (.alloc K0 (I 0)),
 E (.store K0 (.t 9) (.c (I 0)))] []) (
 sq (sq (.reg [
 O 12 (.mov (.t 0)),
 O 13 (.mov (.t 1)),
 O 14 (.call 2 50 [(.t 12), (.t 13)])] [1, 13, 0, 12]) (
 .block 0 (
 .rng (.t 14) 100016 [15, 16] [6, 7, 9] L40_0 L40_1))) (
 sq (.reg [
 O 30 (.load K0 (.t 9)),
 O 8 (.mov (.t 30))] [9, 30]) (
 .ret))))⟩
def F41 : PF := ⟨3, [.c 6 (K1 2)],
 sq (.reg [
 O 3 (.box (K1 19) (.t 0)),
 O 6 (.alloc (K1 2) (.a [(I 0), (.i .u64 0)]))] [0]) (
 sq (.reg [
 O 11 (.load (K1 19) (.t 3)),
 O 12 (.mov (.t 1)),
 O 13 (.call 0 51 [(.t 11), (.t 12)]),
 O 7 (.alloc (K1 5) (.a [(.l (K1 2) [] true), (.b false), (I 0), (I 0), (.b false)])),
 E (.store (K1 5) (.t 7) (.t 13))] [13, 12, 3, 11]) (
 sq (.reg [
 O 14 (.faddr 0 (.t 7)),
 O 15 (.load K0 (.t 14)),
 O 16 (.faddr 1 (.t 7)),
 O 17 (.load K0 (.t 16)),
 O 18 (.mov (.t 1)),
 O 19 (.call 0 52 [(.t 15), (.t 17), (.t 18)]),
 O 8 (.mov (.t 19))] [19, 1, 18, 17, 16, 15, 14]) (
 sq (.reg [
 O 21 (.mov (.t 8)),
 O 22 (.faddr 2 (.t 7)),
 O 23 (.load K0 (.t 22)),
 O 24 (.mov (.t 2)),
 O 25 (.call 0 54 [(.t 23), (.t 24)]),
 O 26 (.call 0 53 [(.t 21), (.t 25)]),
 O 20 (.mov (.t 26)),
 O 27 (.ext (.t 20) 0),
 O 28 (.ext (.t 20) 1),
 O 9 (.alloc (K1 2) (.a [(I 0), (.i .u64 0)])),
 E (.store (K1 2) (.t 9) (.t 27)),
 O 10 (.mov (.t 28))] [28, 27, 20, 26, 25, 2, 24, 23, 7, 22, 8, 21]) (
 sq (sq (.reg [
 O 29 (.mov (.t 10)),
 O 30 (.bin .neq (.t 29) (.c (I 0)))] [10, 29]) (
 .cond (.t 30) (sq (.reg [
 O 31 (.agg [(I 0), (.i .u64 0)] []),
 E (.store (K1 2) (.t 6) (.t 31))] [31]) (
 .ret))
 (.skip))) (
 sq (.reg [
 O 32 (.load (K1 2) (.t 9)),
 E (.store (K1 2) (.t 6) (.t 32))] [9, 32]) (
 .ret))))))⟩
def F42 : PF := ⟨2, [.c 4 (K1 2), .t 5],
 sq (.reg [
 O 2 (.box (K1 2) (.t 0)),
 O 3 (.box (K1 2) (.t 1)),
 O 4 (.alloc (K1 2) (.a [(I 0), (.i .u64 0)])),
 O 5 (.mov (.c (I 0)))] [5, 1, 0]) (
 sq (.reg [
 O 10 (.faddr 1 (.t 2)),
 O 11 (.load K0 (.t 10)),
 O 12 (.faddr 1 (.t 3)),
 O 13 (.load K0 (.t 12)),
 O 14 (.prim 1 [(.t 11), (.t 13), (.c (.i .u64 0))]),
 O 9 (.mov (.t 14)),
 O 15 (.ext (.t 9) 0),
 O 16 (.ext (.t 9) 1),
 O 6 (.mov (.t 15)),
 O 7 (.mov (.t 16))] [16, 15, 9, 14, 13, 12, 11, 10]) (
 sq (.reg [
 O 17 (.faddr 0 (.t 2)),
 O 18 (.load K0 (.t 17)),
 O 19 (.faddr 0 (.t 3)),
 O 20 (.load K0 (.t 19)),
 O 21 (.bin .sub (.t 18) (.t 20)),
 O 22 (.mov (.t 7)),
 O 23 (.conv .i64 (.t 22)),
 O 24 (.bin .sub (.t 21) (.t 23)),
 O 8 (.mov (.t 24))] [24, 23, 7, 22, 21, 20, 19, 18, 17]) (
 sq (sq (.reg [
 O 25 (.faddr 0 (.t 2)),
 O 26 (.load K0 (.t 25)),
 O 27 (.bin .lss (.t 26) (.c (I 0))),
 O 28 (.faddr 0 (.t 3)),
 O 29 (.load K0 (.t 28)),
 O 30 (.bin .lss (.t 29) (.c (I 0))),
 O 31 (.eqb true (.t 27) (.t 30)),
 O 32 (.mov (.t 31)),
 OG 33 32 true (.mov (.t 8)),
 OG 34 32 true (.bin .lss (.t 33) (.c (I 0))),
 OG 35 32 true (.faddr 0 (.t 2)),
 OG 36 32 true (.load K0 (.t 35)),
 OG 37 32 true (.bin .lss (.t 36) (.c (I 0))),
 OG 38 32 true (.eqb true (.t 34) (.t 37)),
 O 39 (.pick (.t 32) (.t 38) (.c (.b false)))] [38, 37, 36, 35, 34, 33, 32, 31, 30, 29, 3, 28, 27, 26, 2, 25]) (
 .cond (.t 39) (sq (.reg [
 O 40 (.agg [(I 0), (.i .u64 0)] []),
 E (.store (K1 2) (.t 4) (.t 40)),
 O 5 (.mov (.c (I 6)))] [40]) (
 .ret))
 (.skip))) (
 sq (.reg [
 O 41 (.mov (.t 8)),
 O 42 (.mov (.t 6)),
 O 43 (.agg [(I 0), (.i .u64 0)] [(0, K0, (.t 41)), (1, K0, (.t 42))]),
 E (.store (K1 2) (.t 4) (.t 43)),
 O 5 (.mov (.c (I 0)))] [43, 6, 42, 8, 41]) (
 .ret)))))⟩
def F43 : PF := ⟨2, [.c 4 (K1 2), .t 5, .t 6],
 sq (.reg [
 O 2 (.box (K1 2) (.t 0)),
 O 4 (.alloc (K1 2) (.a [(I 0), (.i .u64 0)])),
 O 5 (.mov (.c (I 0))),
 O 6 (.mov (.c (I 0)))] [6, 5, 0]) (
 sq (sq (.reg [
 O 11 (.mov (.t 1)),
 O 12 (.bin .lss (.t 11) (.c (I 1)))] [11]) (
 .cond (.t 12) (sq (.reg [
 O 13 (.agg [(I 0), (.i .u64 0)] []),
 E (.store (K1 2) (.t 4) (.t 13)),
 O 5 (.mov (.c (I 0))),
 O 6 (.mov (.c (I 1)))] [13]) (
 .ret))
 (.skip))) (
 sq (.reg [
 O 15 (.load (K1 2) (.t 2)),
 O 16 (.call 0 55 [(.t 15)]),
 O 17 (.mov (.t 1)),
 O 18 (.conv .u64 (.t 17)),
 O 19 (.call 0 56 [(.t 16), (.t 18)]),
 O 14 (.mov (.t 19)),
 O 20 (.ext (.t 14) 0),
 O 21 (.ext (.t 14) 1),
 O 7 (.alloc (K1 2) (.a [(.i .u64 0), (.i .u64 0)])),
 E (.store (K1 2) (.t 7) (.t 20)),
 O 8 (.mov (.t 21))] [21, 20, 14, 19, 18, 17, 16, 15]) (
 sq (sq (.reg [
 O 22 (.faddr 0 (.t 2)),
 O 23 (.load K0 (.t 22)),
 O 24 (.bin .lss (.t 23) (.c (I 0))),
 O 25 (.mov (.t 24)),
 OG 26 25 true (.mov (.t 8)),
 OG 27 25 true (.bin .gtr (.t 26) (.c (.i .u64 0))),
 O 28 (.pick (.t 25) (.t 27) (.c (.b false)))] [27, 26, 25, 24, 23, 22]) (
 .cond (.t 28) (sq (.reg [
 O 30 (.load (K1 2) (.t 7)),
 O 31 (.call 0 57 [(.t 30), (.c (.i .u64 1)), (.c (.i .u64 1))]),
 O 29 (.mov (.t 31)),
 O 32 (.ext (.t 29) 0),
 O 33 (.ext (.t 29) 1),
 E (.store (K1 2) (.t 7) (.t 32))] [33, 32, 29, 31, 30]) (
 .reg [
 O 34 (.mov (.t 1)),
 O 35 (.conv .u64 (.t 34)),
 O 36 (.mov (.t 8)),
 O 37 (.bin .sub (.t 35) (.t 36)),
 O 8 (.mov (.t 37))] [37, 36, 35, 1, 34]))
 (.skip))) (
 sq (.regD [
 O 39 (.load (K1 2) (.t 7)),
 O 40 (.faddr 0 (.t 2)),
 O 41 (.load K0 (.t 40)),
 O 42 (.bin .lss (.t 41) (.c (I 0))),
 O 43 (.mov (.t 42)),
 OG 44 43 true (.load (K1 2) (.t 7)),
 OG 45 43 true (.agg [(.i .u64 0), (.i .u64 0)] []),
 OG 46 43 true (.eqv true [1, 1] (.t 44) (.t 45)),
 O 47 (.pick (.t 43) (.t 46) (.c (.b false))),
 O 48 (.call 0 58 [(.t 39), (.t 47)]),
 O 38 (.mov (.t 48)),
 O 49 (.ext (.t 38) 0),
 O 50 (.ext (.t 38) 1),
 O 9 (.alloc (K1 2) (.a [(I 0), (.i .u64 0)])),
 E (.store (K1 2) (.t 9) (.t 49)),
 O 10 (.mov (.t 50))] [0, 0, 2, 6, 14, 30, 30, 126, 254, 511, 1023, 2047, 2047, 0, 12287, 32767] [10, 50, 49, 38, 48, 47, 46, 45, 44, 43, 42, 41, 2, 40, 7, 39]) (
 sq (.reg [
 O 51 (.load (K1 2) (.t 9)),
 O 52 (.mov (.t 8)),
 O 53 (.conv .i64 (.t 52)),
 E (.store (K1 2) (.t 4) (.t 51)),
 O 5 (.mov (.t 53)),
 O 6 (.mov (.c (I 0)))] [53, 8, 52, 9, 51]) (
 .ret))))))⟩
def F44 : PF := ⟨1, [.c 2 (K1 2)],
 sq (.reg [
 O 2 (.alloc (K1 2) (.a [(I 0), (.i .u64 0)]))] []) (
 sq (.reg [
 O 3 (.mov (.t 0)),
 O 4 (.bin .shr (.t 3) (.c (.i .u64 63))),
 O 5 (.mov (.t 0)),
 O 6 (.conv .u64 (.t 5)),
 O 7 (.agg [(I 0), (.i .u64 0)] [(0, K0, (.t 4)), (1, K0, (.t 6))]),
 E (.store (K1 2) (.t 2) (.t 7))] [7, 6, 5, 4, 0, 3]) (
 .ret))⟩
def F45 : PF := ⟨4, [.t 8],
 sq (.reg [
 O 4 (.box (K1 2) (.t 0)),
 O 8 (.mov (.c (I 0)))] [8, 0]) (
 sq (.reg [
 O 10 (.faddr 0 (.t 4)),
 O 11 (.load K0 (.t 10)),
 O 12 (.bin .lss (.t 11) (.c (I 0))),
 O 9 (.mov (.t 12))] [12, 11, 10]) (
 sq (sq (.reg [
 O 13 (.mov (.t 3)),
 O 14 (.bin .lss (.t 13) (.c (I 5)))] [13]) (
 .cond (.t 14) (sq (sq (.reg [
 O 15 (.mov (.t 9))] [9]) (
 .cond (.t 15) (sq (.reg [
 O 16 (.mov (.t 3)),
 O 17 (.iaddrA 5 (K1 2) (.g 1) (.t 16)),
 O 18 (.faddr 0 (.t 17)),
 O 19 (.load K0 (.t 18)),
 O 8 (.mov (.t 19))] [19, 18, 17, 3, 16]) (
 .ret))
 (.skip))) (
 sq (.reg [
 O 20 (.mov (.t 3)),
 O 21 (.iaddrA 5 (K1 2) (.g 1) (.t 20)),
 O 22 (.faddr 1 (.t 21)),
 O 23 (.load K0 (.t 22)),
 O 8 (.mov (.t 23))] [23, 22, 21, 3, 20]) (
 .ret)))
 (.skip))) (
 sq (.block 0 (
 sq (.reg [
 O 25 (.mov (.t 1)),
 O 26 (.mov (.t 2)),
 O 27 (.mov (.t 1)),
 O 28 (.bin .sub (.t 26) (.t 27)),
 O 29 (.bin .gtr (.t 25) (.t 28)),
 O 24 (.mov (.t 29))] [29, 28, 27, 26, 25]) (
 .cond (.t 24) (sq (.reg [
 O 8 (.mov (.c (I 1)))] []) (
 .ret))
 (sq (.reg [
 O 31 (.mov (.t 1)),
 O 32 (.mov (.t 2)),
 O 33 (.mov (.t 1)),
 O 34 (.bin .sub (.t 32) (.t 33)),
 O 35 (.bin .lss (.t 31) (.t 34)),
 O 30 (.mov (.t 35))] [35, 34, 33, 2, 32, 1, 31]) (
 .cond (.t 30) (sq (.reg [
 O 8 (.mov (.c (I 0)))] []) (
 .ret))
 (sq (.reg [
 O 37 (.mov (.t 3)),
 O 38 (.bin .eql (.t 37) (.c (I 6))),
 O 36 (.mov (.t 38))] [38, 3, 37]) (
 .cond (.t 36) (sq (.reg [
 O 39 (.faddr 1 (.t 4)),
 O 40 (.load K0 (.t 39)),
 O 41 (.bin .and (.t 40) (.c (.i .u64 1))),
 O 42 (.conv .i64 (.t 41)),
 O 8 (.mov (.t 42))] [42, 41, 40, 4, 39]) (
 .ret))
 (sq (.reg [
 O 44 (.mov (.t 9)),
 O 43 (.mov (.t 44))] [9, 44]) (
 .cond (.t 43) (sq (.reg [
 O 8 (.mov (.c (I 0)))] []) (
 .ret))
 (.skip)))))))))) (
 sq (.reg [
 O 8 (.mov (.c (I 1)))] []) (
 .ret)))))⟩
def F46 : PF := ⟨1, [.t 2, .t 3],
 sq (.reg [
 O 1 (.box (K1 2) (.t 0)),
 O 2 (.mov (.c (I 0))),
 O 3 (.mov (.c (.b false)))] [3, 2, 0]) (
 sq (.reg [
 O 5 (.faddr 1 (.t 1)),
 O 6 (.load K0 (.t 5)),
 O 7 (.conv .i64 (.t 6)),
 O 4 (.mov (.t 7))] [7, 6, 5]) (
 sq (sq (.regD [
 O 8 (.mov (.t 4)),
 O 9 (.call 0 44 [(.t 8)]),
 O 10 (.load (K1 2) (.t 1)),
 O 11 (.eqv true [1, 1] (.t 9) (.t 10))] [0, 1, 0, 7] [1, 10, 9, 8]) (
 .cond (.t 11) (sq (.reg [
 O 2 (.mov (.c (I 0))),
 O 3 (.mov (.c (.b false)))] []) (
 .ret))
 (.skip))) (
 sq (.reg [
 O 12 (.mov (.t 4)),
 O 2 (.mov (.t 12)),
 O 3 (.mov (.c (.b true)))] [4, 12]) (
 .ret))))⟩
def F47 : PF := ⟨2, [.t 4, .t 5],
 sq (.reg [
 O 4 (.mov (.c (.i .u64 0))),
 O 5 (.mov (.c (.i .u64 0)))] [5, 4]) (
 sq (.reg [
 O 14 (.mov (.t 0)),
 O 15 (.bin .and (.t 14) (.c (.i .u64 4294967295))),
 O 6 (.mov (.t 15))] [15, 14]) (
 sq (.reg [
 O 16 (.mov (.t 0)),
 O 17 (.bin .shr (.t 16) (.c (.i .u64 32))),
 O 7 (.mov (.t 17))] [17, 16]) (
 sq (.reg [
 O 18 (.mov (.t 1)),
 O 19 (.bin .and (.t 18) (.c (.i .u64 4294967295))),
 O 8 (.mov (.t 19))] [19, 18]) (
 sq (.reg [
 O 20 (.mov (.t 1)),
 O 21 (.bin .shr (.t 20) (.c (.i .u64 32))),
 O 9 (.mov (.t 21))] [21, 20]) (
 sq (.reg [
 O 22 (.mov (.t 6)),
 O 23 (.mov (.t 8)),
 O 24 (.bin .mul (.t 22) (.t 23)),
 O 10 (.mov (.t 24))] [24, 23, 22]) (
 sq (.reg [
 O 25 (.mov (.t 7)),
 O 26 (.mov (.t 8)),
 O 27 (.bin .mul (.t 25) (.t 26)),
 O 28 (.mov (.t 10)),
 O 29 (.bin .shr (.t 28) (.c (.i .u64 32))),
 O 30 (.bin .add (.t 27) (.t 29)),
 O 11 (.mov (.t 30))] [30, 29, 10, 28, 27, 8, 26, 25]) (
 sq (.reg [
 O 31 (.mov (.t 11)),
 O 32 (.bin .and (.t 31) (.c (.i .u64 4294967295))),
 O 12 (.mov (.t 32))] [32, 31]) (
 sq (.reg [
 O 33 (.mov (.t 11)),
 O 34 (.bin .shr (.t 33) (.c (.i .u64 32))),
 O 13 (.mov (.t 34))] [34, 11, 33]) (
 sq (.reg [
 O 35 (.mov (.t 12)),
 O 36 (.mov (.t 6)),
 O 37 (.mov (.t 9)),
 O 38 (.bin .mul (.t 36) (.t 37)),
 O 39 (.bin .add (.t 35) (.t 38)),
 O 12 (.mov (.t 39))] [39, 38, 37, 6, 36, 35]) (
 sq (.reg [
 O 40 (.mov (.t 7)),
 O 41 (.mov (.t 9)),
 O 42 (.bin .mul (.t 40) (.t 41)),
 O 43 (.mov (.t 13)),
 O 44 (.bin .add (.t 42) (.t 43)),
 O 45 (.mov (.t 12)),
 O 46 (.bin .shr (.t 45) (.c (.i .u64 32))),
 O 47 (.bin .add (.t 44) (.t 46)),
 O 4 (.mov (.t 47))] [47, 46, 12, 45, 44, 13, 43, 42, 9, 41, 7, 40]) (
 sq (.reg [
 O 48 (.mov (.t 0)),
 O 49 (.mov (.t 1)),
 O 50 (.bin .mul (.t 48) (.t 49)),
 O 5 (.mov (.t 50))] [50, 1, 49, 0, 48]) (
 .ret))))))))))))⟩
def F48 : PF := ⟨1, [.t 2],
 sq (.reg [
 O 2 (.mov (.c (.i .u64 0)))] [2]) (
 sq (sq (.reg [
 O 3 (.mov (.t 0)),
 O 4 (.bin .lss (.t 3) (.c (I 0)))] [3]) (
 .cond (.t 4) (sq (.reg [
 O 5 (.mov (.t 0)),
 O 6 (.conv .u64 (.t 5)),
 O 7 (.un .neg (.t 6)),
 O 2 (.mov (.t 7))] [7, 6, 0, 5]) (
 .ret))
 (.skip))) (
 sq (.reg [
 O 8 (.mov (.t 0)),
 O 9 (.conv .u64 (.t 8)),
 O 2 (.mov (.t 9))] [9, 0, 8]) (
 .ret)))⟩
def F51 : PF := ⟨2, [.c 4 (K1 5)],
 sq (.reg [
 O 2 (.box (K1 19) (.t 0)),
 O 4 (.alloc (K1 5) (.a [(.l (K1 2) [] true), (.b false), (I 0), (I 0), (.b false)]))] [0]) (
 sq (.reg [
 O 6 (.faddr 7 (.t 2)),
 O 7 (.load (K1 5) (.t 6)),
 O 5 (.alloc (K1 5) (.a [(.l (K1 2) [] true), (.b false), (I 0), (I 0), (.b false)])),
 E (.store (K1 5) (.t 5) (.t 7))] [7, 6]) (
 sq (sq (.reg [
 O 8 (.mov (.t 1)),
 O 9 (.bin .lss (.t 8) (.c (I 0)))] [1, 8]) (
 .cond (.t 9) (.reg [
 O 10 (.faddr 12 (.t 2)),
 O 11 (.load (K1 5) (.t 10)),
 E (.store (K1 5) (.t 5) (.t 11))] [11, 2, 10])
 (.skip))) (
 sq (.reg [
 O 12 (.faddr 0 (.t 5)),
 O 13 (.load K0 (.t 12)),
 O 14 (.call 1 60 [(.t 13)]),
 O 15 (.faddr 0 (.t 5)),
 E (.store K0 (.t 15) (.t 14))] [15, 14, 13, 12]) (
 sq (.reg [
 O 16 (.load (K1 5) (.t 5)),
 E (.store (K1 5) (.t 4) (.t 16))] [5, 16]) (
 .ret)))))⟩
def L52_0 : PC :=
 sq (.reg [
 O 37 (.bin .lss (.t 36) (.t 35))] []) (
 sq (.cond (.t 37) (.skip)
 (.exit 0)) (
 sq (.block 1 (
 sq (.reg [
 O 38 (.mov (.t 36)),
 O 39 (.iaddr (K1 2) (.t 34) (.t 36)),
 O 40 (.load (K1 2) (.t 39)),
 O 10 (.alloc (K1 2) (.a [(I 0), (I 0)])),
 O 9 (.mov (.t 38)),
 E (.store (K1 2) (.t 10) (.t 40))] [40, 39, 38]) (
 sq (.reg [
 O 41 (.mov (.t 7)),
 O 11 (.mov (.t 41))] [41]) (
 sq (sq (.reg [
 O 42 (.mov (.t 9)),
 O 43 (.bin .add (.t 42) (.c (I 1))),
 O 44 (.mov (.t 0)),
 O 45 (.len false (.t 44)),
 O 46 (.bin .lss (.t 43) (.t 45))] [45, 44, 43, 42]) (
 .cond (.t 46) (.reg [
 O 47 (.mov (.t 11)),
 O 48 (.mov (.t 0)),
 O 49 (.mov (.t 9)),
 O 50 (.bin .add (.t 49) (.c (I 1))),
 O 51 (.iaddr (K1 2) (.t 48) (.t 50)),
 O 52 (.faddr 0 (.t 51)),
 O 53 (.load K0 (.t 52)),
 O 54 (.minmax false [(.t 47), (.t 53)]),
 O 11 (.mov (.t 54))] [54, 53, 52, 51, 50, 9, 49, 48, 47])
 (.skip))) (
 sq (.reg [
 O 55 (.mov (.t 11)),
 O 56 (.faddr 0 (.t 10)),
 O 57 (.load K0 (.t 56)),
 O 58 (.bin .gtr (.t 55) (.t 57))] [57, 56, 55]) (
 .cond (.t 58) (.reg [
 O 59 (.mov (.t 8)),
 O 60 (.mov (.t 11)),
 O 61 (.faddr 0 (.t 10)),
 O 62 (.load K0 (.t 61)),
 O 63 (.bin .sub (.t 60) (.t 62)),
 O 64 (.faddr 1 (.t 10)),
 O 65 (.load K0 (.t 64)),
 O 66 (.agg [(I 0), (I 0)] [(0, K0, (.t 63)), (1, K0, (.t 65))]),
 O 67 (.bsl (K1 2) (.a [(I 0), (I 0)]) 1 [(0, (.t 66))]),
 O 68 (.app (K1 2) 16 (.t 59) (.t 67)),
 O 8 (.mov (.t 68))] [68, 67, 66, 65, 64, 63, 62, 10, 61, 11, 60, 59])
 (.skip))))))) (
 .reg [
 O 69 (.bin .add (.t 36) (.c (I 1))),
 O 36 (.mov (.t 69))] [69])))
def F52 : PF := ⟨3, [.t 6],
 sq (.reg [
 O 6 (.mov (.c (.l (K1 2) [] true)))] [6]) (
 sq (.reg [
 O 12 (.mov (.t 2)),
 O 13 (.call 0 61 [(.t 12)]),
 O 7 (.mov (.t 13))] [13, 12]) (
 sq (sq (.reg [
 O 14 (.mov (.t 0)),
 O 15 (.len false (.t 14)),
 O 16 (.bin .eql (.t 15) (.c (I 0))),
 O 17 (.mov (.t 16)),
 OG 18 17 false (.mov (.t 0)),
 OG 19 17 false (.call 0 62 [(.t 18)]),
 OG 20 17 false (.bin .neq (.t 19) (.c (I 0))),
 O 21 (.pick (.t 17) (.c (.b true)) (.t 20)),
 O 22 (.mov (.t 21)),
 OG 23 22 false (.mov (.t 7)),
 OG 24 22 false (.bin .eql (.t 23) (.c (I 0))),
 O 25 (.pick (.t 22) (.c (.b true)) (.t 24))] [24, 23, 22, 21, 20, 19, 18, 17, 16, 15, 14]) (
 .cond (.t 25) (sq (.reg [
 O 6 (.mov (.c (.l (K1 2) [] true)))] []) (
 .ret))
 (.skip))) (
 sq (sq (.reg [
 O 26 (.mov (.t 1)),
 O 27 (.un .not (.t 26))] [1, 26]) (
 .cond (.t 27) (sq (.reg [
 O 28 (.mov (.t 7)),
 O 29 (.mov (.t 0)),
 O 30 (.mov (.t 2)),
 O 31 (.call 0 63 [(.t 29), (.t 30)]),
 O 32 (.agg [(I 0), (I 0)] [(0, K0, (.t 28)), (1, K0, (.t 31))]),
 O 33 (.bsl (K1 2) (.a [(I 0), (I 0)]) 1 [(0, (.t 32))]),
 O 6 (.mov (.t 33))] [33, 32, 31, 2, 30, 0, 29, 7, 28]) (
 .ret))
 (.skip))) (
 sq (.reg [
 O 8 (.mov (.c (.l (K1 2) [] true)))] []) (
 sq (sq (.reg [
 O 34 (.mov (.t 0)),
 O 35 (.len false (.t 34)),
 O 36 (.mov (.c (I 0)))] []) (
 .block 0 (
 .loop [0, 7, 8, 34, 35, 36] L52_0))) (
 sq (.reg [
 O 70 (.mov (.t 8)),
 O 6 (.mov (.t 70))] [8, 70]) (
 .ret)))))))⟩
def L53_0 : PC :=
 sq (.reg [
 O 25 (.bin .lss (.t 24) (.t 23))] []) (
 sq (.cond (.t 25) (.skip)
 (.exit 0)) (
 sq (.block 1 (
 sq (.reg [
 O 26 (.iaddr (K1 2) (.t 22) (.t 24)),
 O 27 (.load (K1 2) (.t 26)),
 O 8 (.alloc (K1 2) (.a [(I 0), (I 0)])),
 E (.store (K1 2) (.t 8) (.t 27))] [27, 26]) (
 sq (sq (.reg [
 O 28 (.faddr 0 (.t 8)),
 O 29 (.load K0 (.t 28)),
 O 30 (.bin .lss (.t 29) (.c (I 0))),
 O 31 (.mov (.t 30)),
 OG 32 31 false (.faddr 1 (.t 8)),
 OG 33 31 false (.load K0 (.t 32)),
 OG 34 31 false (.bin .lss (.t 33) (.c (I 0))),
 O 35 (.pick (.t 31) (.c (.b true)) (.t 34)),
 O 36 (.mov (.t 35)),
 OG 37 36 false (.faddr 1 (.t 8)),
 OG 38 36 false (.load K0 (.t 37)),
 OG 39 36 false (.bin .gtr (.t 38) (.c (I 1000000))),
 O 40 (.pick (.t 36) (.c (.b true)) (.t 39))] [39, 38, 37, 36, 35, 34, 33, 32, 31, 30, 29, 28]) (
 .cond (.t 40) (sq (.reg [
 O 41 (.agg [(I 0), (.i .u64 0)] []),
 E (.store (K1 2) (.t 4) (.t 41)),
 O 5 (.mov (.c (I 1)))] [41]) (
 .ret))
 (.skip))) (
 sq (.reg [
 O 43 (.faddr 0 (.t 8)),
 O 44 (.load K0 (.t 43)),
 O 45 (.faddr 1 (.t 8)),
 O 46 (.load K0 (.t 45)),
 O 47 (.call 0 37 [(.t 44), (.t 46)]),
 O 48 (.mov (.t 1)),
 O 49 (.call 0 64 [(.t 47), (.t 48)]),
 O 42 (.mov (.t 49)),
 O 50 (.ext (.t 42) 0),
 O 51 (.ext (.t 42) 1),
 O 9 (.alloc (K1 2) (.a [(I 0), (.i .u64 0)])),
 E (.store (K1 2) (.t 9) (.t 50)),
 O 10 (.mov (.t 51))] [10, 51, 50, 42, 49, 48, 47, 46, 45, 44, 8, 43]) (
 .reg [
 O 53 (.load (K1 2) (.t 6)),
 O 54 (.load (K1 2) (.t 9)),
 O 55 (.call 0 31 [(.t 53), (.t 54)]),
 O 52 (.mov (.t 55)),
 O 56 (.ext (.t 52) 0),
 O 57 (.ext (.t 52) 1),
 E (.store (K1 2) (.t 6) (.t 56))] [57, 56, 52, 55, 9, 54, 53]))))) (
 .reg [
 O 58 (.bin .add (.t 24) (.c (I 1))),
 O 24 (.mov (.t 58))] [58])))
def F53 : PF := ⟨2, [.c 4 (K1 2), .t 5],
 sq (.reg [
 O 4 (.alloc (K1 2) (.a [(I 0), (.i .u64 0)])),
 O 5 (.mov (.c (I 0)))] [5]) (
 sq (sq (.reg [
 O 11 (.mov (.t 0)),
 O 12 (.len false (.t 11)),
 O 13 (.bin .gtr (.t 12) (.c (I 6)))] [12, 11]) (
 .cond (.t 13) (sq (.reg [
 O 14 (.agg [(I 0), (.i .u64 0)] []),
 E (.store (K1 2) (.t 4) (.t 14)),
 O 5 (.mov (.c (I 5)))] [14]) (
 .ret))
 (.skip))) (
 sq (sq (.reg [
 O 15 (.mov (.t 1)),
 O 16 (.bin .lss (.t 15) (.c (I 0))),
 O 17 (.mov (.t 16)),
 OG 18 17 false (.mov (.t 1)),
 OG 19 17 false (.bin .gtr (.t 18) (.c (I 6412320000))),
 O 20 (.pick (.t 17) (.c (.b true)) (.t 19))] [19, 18, 17, 16, 15]) (
 .cond (.t 20) (sq (.reg [
 O 21 (.agg [(I 0), (.i .u64 0)] []),
 E (.store (K1 2) (.t 4) (.t 21)),
 O 5 (.mov (.c (I 1)))] [21]) (
 .ret))
 (.skip))) (
 sq (.reg [
 O 6 (.alloc (K1 2) (.a [(I 0), (.i .u64 0)]))] []) (
 sq (sq (.reg [
 O 22 (.mov (.t 0)),
 O 23 (.len false (.t 22)),
 O 24 (.mov (.c (I 0)))] [0]) (
 .block 0 (
 .loop [1, 4, 6, 22, 23, 24] L53_0))) (
 sq (.reg [
 O 59 (.load (K1 2) (.t 6)),
 E (.store (K1 2) (.t 4) (.t 59)),
 O 5 (.mov (.c (I 0)))] [6, 59]) (
 .ret))))))⟩
def F54 : PF := ⟨2, [.t 4],
 sq (.reg [
 O 4 (.mov (.c (I 0)))] [4]) (
 sq (sq (.reg [
 O 9 (.mov (.t 1)),
 O 10 (.call 0 22 [(.t 9)]),
 O 11 (.un .not (.t 10))] [10, 9]) (
 .cond (.t 11) (sq (.reg [
 O 4 (.mov (.c (I 0)))] []) (
 .ret))
 (.skip))) (
 sq (.reg [
 O 13 (.mov (.t 1)),
 O 14 (.call 0 65 [(.t 13)]),
 O 12 (.mov (.t 14)),
 O 15 (.ext (.t 12) 0),
 O 16 (.ext (.t 12) 1),
 O 17 (.ext (.t 12) 2),
 O 5 (.mov (.t 15)),
 O 6 (.mov (.t 16)),
 O 7 (.mov (.t 17))] [7, 6, 17, 16, 15, 12, 14, 13]) (
 sq (.reg [
 O 8 (.mov (.c (I 1)))] []) (
 sq (sq (.reg [
 O 18 (.mov (.t 0))] [0]) (
 .block 0 (
 sq (.block 4 (
 sq (.block 3 (
 sq (.block 2 (
 sq (.block 1 (
 sq (sq (sq (.reg [
 O 20 (.bin .eql (.t 18) (.c (I 3))),
 O 19 (.mov (.t 20))] [20]) (
 .cond (.t 19) (.exit 1)
 (.skip))) (
 sq (sq (.reg [
 O 22 (.bin .eql (.t 18) (.c (I 2))),
 O 21 (.mov (.t 22))] [22]) (
 .cond (.t 21) (.exit 2)
 (.skip))) (
 sq (sq (.reg [
 O 24 (.bin .eql (.t 18) (.c (I 4))),
 O 23 (.mov (.t 24))] [24]) (
 .cond (.t 23) (.exit 3)
 (.skip))) (
 sq (.reg [
 O 26 (.bin .eql (.t 18) (.c (I 1))),
 O 25 (.mov (.t 26))] [18, 26]) (
 .cond (.t 25) (.exit 4)
 (.skip)))))) (
 .exit 0))) (
 sq (.reg [
 O 27 (.mov (.t 5)),
 O 28 (.call 0 66 [(.t 27)])] [5, 27]) (
 .cond (.t 28) (sq (.reg [
 O 4 (.mov (.c (I 4380)))] []) (
 .ret))
 (.skip))))) (
 sq (sq (.reg [
 O 4 (.mov (.c (I 4392)))] []) (
 .ret)) (
 .exit 0)))) (
 .reg [
 O 29 (.mov (.t 1)),
 O 30 (.mov (.t 1)),
 O 31 (.bin .add (.t 30) (.c (I 1))),
 O 32 (.call 0 67 [(.t 29), (.t 31)]),
 O 8 (.mov (.t 32))] [32, 31, 30, 1, 29]))) (
 sq (sq (.reg [
 O 33 (.mov (.t 8)),
 O 34 (.bin .mul (.t 33) (.c (I 4453))),
 O 4 (.mov (.t 34))] [34, 8, 33]) (
 .ret)) (
 .exit 0))))) (
 sq (.reg [
 O 4 (.mov (.c (I 0)))] []) (
 .ret))))))⟩
def F55 : PF := ⟨1, [.c 2 (K1 2)],
 sq (.reg [
 O 1 (.box (K1 2) (.t 0)),
 O 2 (.alloc (K1 2) (.a [(.i .u64 0), (.i .u64 0)]))] [0]) (
 sq (sq (.reg [
 O 3 (.faddr 0 (.t 1)),
 O 4 (.load K0 (.t 3)),
 O 5 (.bin .lss (.t 4) (.c (I 0)))] [4, 3]) (
 .cond (.t 5) (.reg [
 O 6 (.load (K1 2) (.t 1)),
 O 7 (.call 0 49 [(.t 6)]),
 E (.store (K1 2) (.t 1) (.t 7))] [7, 6])
 (.skip))) (
 sq (.reg [
 O 8 (.faddr 0 (.t 1)),
 O 9 (.load K0 (.t 8)),
 O 10 (.conv .u64 (.t 9)),
 O 11 (.faddr 1 (.t 1)),
 O 12 (.load K0 (.t 11)),
 O 13 (.agg [(.i .u64 0), (.i .u64 0)] [(0, K0, (.t 10)), (1, K0, (.t 12))]),
 E (.store (K1 2) (.t 2) (.t 13))] [13, 12, 11, 10, 9, 1, 8]) (
 .ret)))⟩
def F56 : PF := ⟨2, [.c 4 (K1 2), .t 5],
 sq (.reg [
 O 2 (.box (K1 2) (.t 0)),
 O 4 (.alloc (K1 2) (.a [(.i .u64 0), (.i .u64 0)])),
 O 5 (.mov (.c (.i .u64 0)))] [5, 0]) (
 sq (.regD [
 O 9 (.faddr 0 (.t 2)),
 O 10 (.load K0 (.t 9)),
 O 11 (.mov (.t 1)),
 O 12 (.bin .rem (.t 10) (.t 11)),
 O 13 (.faddr 1 (.t 2)),
 O 14 (.load K0 (.t 13)),
 O 15 (.mov (.t 1)),
 O 16 (.call 0 68 [(.t 12), (.t 14), (.t 15)]),
 O 8 (.mov (.t 16)),
 O 17 (.ext (.t 8) 0),
 O 18 (.ext (.t 8) 1),
 O 6 (.mov (.t 17)),
 O 7 (.mov (.t 18))] [0, 1, 0, 7, 0, 16, 0, 127, 255, 511, 511, 1023, 4095] [18, 17, 8, 16, 15, 14, 13, 12, 11, 10, 9]) (
 sq (.reg [
 O 19 (.faddr 0 (.t 2)),
 O 20 (.load K0 (.t 19)),
 O 21 (.mov (.t 1)),
 O 22 (.bin .quo (.t 20) (.t 21)),
 O 23 (.mov (.t 6)),
 O 24 (.agg [(.i .u64 0), (.i .u64 0)] [(0, K0, (.t 22)), (1, K0, (.t 23))]),
 O 25 (.mov (.t 7)),
 E (.store (K1 2) (.t 4) (.t 24)),
 O 5 (.mov (.t 25))] [7, 25, 24, 6, 23, 22, 1, 21, 20, 2, 19]) (
 .ret)))⟩
def F57 : PF := ⟨3, [.c 6 (K1 2), .t 7],
 sq (.reg [
 O 3 (.box (K1 2) (.t 0)),
 O 6 (.alloc (K1 2) (.a [(.i .u64 0), (.i .u64 0)])),
 O 7 (.mov (.c (.b false)))] [7, 0]) (
 sq (.reg [
 O 14 (.faddr 1 (.t 3)),
 O 15 (.load K0 (.t 14)),
 O 16 (.mov (.t 1)),
 O 17 (.call 0 47 [(.t 15), (.t 16)]),
 O 13 (.mov (.t 17)),
 O 18 (.ext (.t 13) 0),
 O 19 (.ext (.t 13) 1),
 O 8 (.mov (.t 18)),
 O 9 (.mov (.t 19))] [19, 18, 13, 17, 16, 15, 14]) (
 sq (.reg [
 O 21 (.faddr 0 (.t 3)),
 O 22 (.load K0 (.t 21)),
 O 23 (.mov (.t 1)),
 O 24 (.call 0 47 [(.t 22), (.t 23)]),
 O 20 (.mov (.t 24)),
 O 25 (.ext (.t 20) 0),
 O 26 (.ext (.t 20) 1),
 O 10 (.mov (.t 25)),
 O 11 (.mov (.t 26))] [26, 25, 20, 24, 1, 23, 22, 3, 21]) (
 sq (.reg [
 O 28 (.mov (.t 9)),
 O 29 (.mov (.t 2)),
 O 30 (.prim 0 [(.t 28), (.t 29), (.c (.i .u64 0))]),
 O 27 (.mov (.t 30)),
 O 31 (.ext (.t 27) 0),
 O 32 (.ext (.t 27) 1),
 O 9 (.mov (.t 31)),
 O 12 (.mov (.t 32))] [32, 31, 27, 30, 2, 29, 28]) (
 sq (.reg [
 O 33 (.mov (.t 8)),
 O 34 (.mov (.t 12)),
 O 35 (.bin .add (.t 33) (.t 34)),
 O 8 (.mov (.t 35))] [35, 12, 34, 33]) (
 sq (.reg [
 O 37 (.mov (.t 11)),
 O 38 (.mov (.t 8)),
 O 39 (.prim 0 [(.t 37), (.t 38), (.c (.i .u64 0))]),
 O 36 (.mov (.t 39)),
 O 40 (.ext (.t 36) 0),
 O 41 (.ext (.t 36) 1),
 O 11 (.mov (.t 40)),
 O 12 (.mov (.t 41))] [41, 40, 36, 39, 8, 38, 37]) (
 sq (.reg [
 O 42 (.mov (.t 11)),
 O 43 (.mov (.t 9)),
 O 44 (.agg [(.i .u64 0), (.i .u64 0)] [(0, K0, (.t 42)), (1, K0, (.t 43))]),
 O 45 (.mov (.t 10)),
 O 46 (.bin .eql (.t 45) (.c (.i .u64 0))),
 O 47 (.mov (.t 46)),
 OG 48 47 true (.mov (.t 12)),
 OG 49 47 true (.bin .eql (.t 48) (.c (.i .u64 0))),
 O 50 (.pick (.t 47) (.t 49) (.c (.b false))),
 E (.store (K1 2) (.t 6) (.t 44)),
 O 7 (.mov (.t 50))] [50, 49, 12, 48, 47, 46, 10, 45, 44, 9, 43, 11, 42]) (
 .ret)))))))⟩
def F58 : PF := ⟨2, [.c 4 (K1 2), .t 5],
 sq (.reg [
 O 2 (.box (K1 2) (.t 0)),
 O 4 (.alloc (K1 2) (.a [(I 0), (.i .u64 0)])),
 O 5 (.mov (.c (I 0)))] [5, 0]) (
 sq (sq (.reg [
 O 7 (.faddr 0 (.t 2)),
 O 8 (.load K0 (.t 7)),
 O 9 (.bin .gtr (.t 8) (.c (.i .u64 9223372036854775808))),
 O 10 (.mov (.t 9)),
 OG 11 10 false (.faddr 0 (.t 2)),
 OG 12 10 false (.load K0 (.t 11)),
 OG 13 10 false (.bin .eql (.t 12) (.c (.i .u64 9223372036854775808))),
 OG 14 10 false (.mov (.t 13)),
 OG 15 14 true (.mov (.t 1)),
 OG 16 14 true (.un .not (.t 15)),
 OG 17 14 true (.mov (.t 16)),
 OG 18 17 false (.faddr 1 (.t 2)),
 OG 19 17 false (.load K0 (.t 18)),
 OG 20 17 false (.bin .gtr (.t 19) (.c (.i .u64 0))),
 OG 21 14 true (.pick (.t 17) (.c (.b true)) (.t 20)),
 OG 22 10 false (.pick (.t 14) (.t 21) (.c (.b false))),
 O 23 (.pick (.t 10) (.c (.b true)) (.t 22))] [22, 21, 20, 19, 18, 17, 16, 15, 14, 13, 12, 11, 10, 9, 8, 7]) (
 .cond (.t 23) (sq (.reg [
 O 24 (.agg [(I 0), (.i .u64 0)] []),
 E (.store (K1 2) (.t 4) (.t 24)),
 O 5 (.mov (.c (I 6)))] [24]) (
 .ret))
 (.skip))) (
 sq (.reg [
 O 25 (.faddr 0 (.t 2)),
 O 26 (.load K0 (.t 25)),
 O 27 (.conv .i64 (.t 26)),
 O 28 (.faddr 1 (.t 2)),
 O 29 (.load K0 (.t 28)),
 O 30 (.agg [(I 0), (.i .u64 0)] [(0, K0, (.t 27)), (1, K0, (.t 29))]),
 O 6 (.alloc (K1 2) (.a [(I 0), (.i .u64 0)])),
 E (.store (K1 2) (.t 6) (.t 30))] [30, 29, 28, 27, 26, 2, 25]) (
 sq (sq (.reg [
 O 31 (.mov (.t 1))] [1]) (
 .cond (.t 31) (.reg [
 O 32 (.load (K1 2) (.t 6)),
 O 33 (.call 0 49 [(.t 32)]),
 E (.store (K1 2) (.t 6) (.t 33))] [33, 32])
 (.skip))) (
 sq (.reg [
 O 34 (.load (K1 2) (.t 6)),
 E (.store (K1 2) (.t 4) (.t 34)),
 O 5 (.mov (.c (I 0)))] [6, 34]) (
 .ret)))))⟩
def F61 : PF := ⟨1, [.t 2],
 sq (.reg [
 O 2 (.mov (.c (I 0)))] [2]) (
 sq (sq (.reg [
 O 3 (.mov (.t 0)),
 O 4 (.bin .lss (.t 3) (.c (I (-9223372036854775807))))] [3]) (
 .cond (.t 4) (sq (.reg [
 O 2 (.mov (.c (I 9223372036854775807)))] []) (
 .ret))
 (.skip))) (
 sq (.reg [
 O 5 (.mov (.t 0)),
 O 6 (.mov (.t 0)),
 O 7 (.un .neg (.t 6)),
 O 8 (.minmax true [(.t 5), (.t 7)]),
 O 2 (.mov (.t 8))] [8, 7, 6, 0, 5]) (
 .ret)))⟩
def L62_0 : PC :=
 sq (.reg [
 O 11 (.bin .lss (.t 10) (.t 9))] []) (
 sq (.cond (.t 11) (.skip)
 (.exit 0)) (
 sq (.block 1 (
 sq (.reg [
 O 12 (.iaddr (K1 2) (.t 8) (.t 10)),
 O 13 (.load (K1 2) (.t 12)),
 O 4 (.alloc (K1 2) (.a [(I 0), (I 0)])),
 E (.store (K1 2) (.t 4) (.t 13))] [13, 12]) (
 sq (.reg [
 O 14 (.faddr 0 (.t 4)),
 O 15 (.load K0 (.t 14)),
 O 16 (.bin .lss (.t 15) (.c (I 0))),
 O 17 (.mov (.t 16)),
 OG 18 17 false (.faddr 0 (.t 4)),
 OG 19 17 false (.load K0 (.t 18)),
 OG 20 17 false (.bin .gtr (.t 19) (.c (I 1000000000000))),
 O 21 (.pick (.t 17) (.c (.b true)) (.t 20)),
 O 22 (.mov (.t 21)),
 OG 23 22 false (.faddr 1 (.t 4)),
 OG 24 22 false (.load K0 (.t 23)),
 OG 25 22 false (.bin .lss (.t 24) (.c (I 0))),
 O 26 (.pick (.t 22) (.c (.b true)) (.t 25)),
 O 27 (.mov (.t 26)),
 OG 28 27 false (.faddr 1 (.t 4)),
 OG 29 27 false (.load K0 (.t 28)),
 OG 30 27 false (.bin .gtr (.t 29) (.c (I 1000000))),
 O 31 (.pick (.t 27) (.c (.b true)) (.t 30))] [30, 29, 28, 27, 26, 25, 24, 23, 22, 21, 20, 19, 18, 17, 16, 15, 4, 14]) (
 .cond (.t 31) (sq (.reg [
 O 2 (.mov (.c (I 1)))] []) (
 .ret))
 (.skip))))) (
 .reg [
 O 32 (.bin .add (.t 10) (.c (I 1))),
 O 10 (.mov (.t 32))] [32])))
def F62 : PF := ⟨1, [.t 2],
 sq (.reg [
 O 2 (.mov (.c (I 0)))] [2]) (
 sq (sq (.reg [
 O 5 (.mov (.t 0)),
 O 6 (.len false (.t 5)),
 O 7 (.bin .gtr (.t 6) (.c (I 6)))] [6, 5]) (
 .cond (.t 7) (sq (.reg [
 O 2 (.mov (.c (I 5)))] []) (
 .ret))
 (.skip))) (
 sq (sq (.reg [
 O 8 (.mov (.t 0)),
 O 9 (.len false (.t 8)),
 O 10 (.mov (.c (I 0)))] []) (
 .block 0 (
 .loop [0, 8, 9, 10] L62_0))) (
 sq (sq (.reg [
 O 33 (.mov (.t 0)),
 O 34 (.call 2 69 [(.t 33), (.f 70)]),
 O 35 (.un .not (.t 34))] [34, 33]) (
 .cond (.t 35) (sq (.reg [
 O 2 (.mov (.c (I 10)))] []) (
 .ret))
 (.skip))) (
 sq (sq (.reg [
 O 36 (.mov (.t 0)),
 O 37 (.len false (.t 36)),
 O 38 (.bin .gtr (.t 37) (.c (I 0))),
 O 39 (.mov (.t 38)),
 OG 40 39 true (.mov (.t 0)),
 OG 41 39 true (.iaddr (K1 2) (.t 40) (.c (I 0))),
 OG 42 39 true (.faddr 0 (.t 41)),
 OG 43 39 true (.load K0 (.t 42)),
 OG 44 39 true (.bin .neq (.t 43) (.c (I 0))),
 O 45 (.pick (.t 39) (.t 44) (.c (.b false)))] [44, 43, 42, 41, 40, 39, 38, 37, 0, 36]) (
 .cond (.t 45) (sq (.reg [
 O 2 (.mov (.c (I 1)))] []) (
 .ret))
 (.skip))) (
 sq (.reg [
 O 2 (.mov (.c (I 0)))] []) (
 .ret))))))⟩
def L63_0 : PC :=
 sq (.reg [
 O 14 (.bin .lss (.t 13) (.t 12))] []) (
 sq (.cond (.t 14) (.skip)
 (.exit 0)) (
 sq (.block 1 (
 sq (.reg [
 O 15 (.iaddr (K1 2) (.t 11) (.t 13)),
 O 16 (.load (K1 2) (.t 15)),
 O 7 (.alloc (K1 2) (.a [(I 0), (I 0)])),
 E (.store (K1 2) (.t 7) (.t 16))] [16, 15]) (
 sq (.regD [
 O 17 (.faddr 0 (.t 7)),
 O 18 (.load K0 (.t 17)),
 O 19 (.mov (.t 1)),
 O 20 (.call 0 61 [(.t 19)]),
 O 21 (.bin .leq (.t 18) (.t 20))] [0, 1, 0, 4, 15] [20, 19, 18, 17]) (
 .cond (.t 21) (.reg [
 O 22 (.faddr 1 (.t 7)),
 O 23 (.load K0 (.t 22)),
 O 5 (.mov (.t 23))] [23, 7, 22])
 (.skip))))) (
 .reg [
 O 24 (.bin .add (.t 13) (.c (I 1))),
 O 13 (.mov (.t 24))] [24])))
def F63 : PF := ⟨2, [.t 4],
 sq (.reg [
 O 4 (.mov (.c (I 0)))] [4]) (
 sq (sq (.reg [
 O 8 (.mov (.t 0)),
 O 9 (.call 0 62 [(.t 8)]),
 O 10 (.bin .neq (.t 9) (.c (I 0)))] [9, 8]) (
 .cond (.t 10) (sq (.reg [
 O 4 (.mov (.c (I 0)))] []) (
 .ret))
 (.skip))) (
 sq (.reg [
 O 5 (.mov (.c (I 0)))] []) (
 sq (sq (.reg [
 O 11 (.mov (.t 0)),
 O 12 (.len false (.t 11)),
 O 13 (.mov (.c (I 0)))] [0]) (
 .block 0 (
 .loop [1, 5, 11, 12, 13] L63_0))) (
 sq (.reg [
 O 25 (.mov (.t 5)),
 O 4 (.mov (.t 25))] [5, 25]) (
 .ret)))))⟩
def F64 : PF := ⟨2, [.c 4 (K1 2), .t 5],
 sq (.reg [
 O 2 (.box (K1 2) (.t 0)),
 O 4 (.alloc (K1 2) (.a [(I 0), (.i .u64 0)])),
 O 5 (.mov (.c (I 0)))] [5, 0]) (
 sq (.reg [
 O 9 (.load (K1 2) (.t 2)),
 O 10 (.call 0 55 [(.t 9)]),
 O 11 (.mov (.t 1)),
 O 12 (.call 0 48 [(.t 11)]),
 O 13 (.call 0 57 [(.t 10), (.t 12), (.c (.i .u64 0))]),
 O 8 (.mov (.t 13)),
 O 14 (.ext (.t 8) 0),
 O 15 (.ext (.t 8) 1),
 O 6 (.alloc (K1 2) (.a [(.i .u64 0), (.i .u64 0)])),
 E (.store (K1 2) (.t 6) (.t 14)),
 O 7 (.mov (.t 15))] [15, 14, 8, 13, 12, 11, 10, 9]) (
 sq (sq (.reg [
 O 16 (.mov (.t 7)),
 O 17 (.un .not (.t 16))] [7, 16]) (
 .cond (.t 17) (sq (.reg [
 O 18 (.agg [(I 0), (.i .u64 0)] []),
 E (.store (K1 2) (.t 4) (.t 18)),
 O 5 (.mov (.c (I 6)))] [18]) (
 .ret))
 (.skip))) (
 sq (.regD [
 O 19 (.load (K1 2) (.t 6)),
 O 20 (.faddr 0 (.t 2)),
 O 21 (.load K0 (.t 20)),
 O 22 (.bin .lss (.t 21) (.c (I 0))),
 O 23 (.mov (.t 1)),
 O 24 (.bin .lss (.t 23) (.c (I 0))),
 O 25 (.eqb true (.t 22) (.t 24)),
 O 26 (.mov (.t 25)),
 OG 27 26 true (.load (K1 2) (.t 6)),
 OG 28 26 true (.agg [(.i .u64 0), (.i .u64 0)] []),
 OG 29 26 true (.eqv true [1, 1] (.t 27) (.t 28)),
 O 30 (.pick (.t 26) (.t 29) (.c (.b false))),
 O 31 (.call 0 58 [(.t 19), (.t 30)]),
 O 32 (.ext (.t 31) 0),
 O 33 (.ext (.t 31) 1),
 E (.store (K1 2) (.t 4) (.t 32)),
 O 5 (.mov (.t 33))] [0, 0, 2, 6, 0, 16, 62, 126, 254, 254, 1022, 2046, 4095, 8191, 8191, 32767, 65535] [33, 32, 31, 30, 29, 28, 27, 26, 25, 24, 1, 23, 22, 21, 2, 20, 6, 19]) (
 .ret))))⟩
def L68_0 : PC :=
 sq (sq (.reg [
 O 67 (.mov (.t 15)),
 O 68 (.bin .geq (.t 67) (.c (.i .u64 4294967296))),
 O 69 (.mov (.t 68)),
 OG 70 69 false (.mov (.t 15)),
 OG 71 69 false (.mov (.t 10)),
 OG 72 69 false (.bin .mul (.t 70) (.t 71)),
 OG 73 69 false (.mov (.t 16)),
 OG 74 69 false (.bin .mul (.c (.i .u64 4294967296)) (.t 73)),
 OG 75 69 false (.mov (.t 13)),
 OG 76 69 false (.bin .add (.t 74) (.t 75)),
 OG 77 69 false (.bin .gtr (.t 72) (.t 76)),
 O 78 (.pick (.t 69) (.c (.b true)) (.t 77))] [77, 76, 75, 74, 73, 72, 71, 70, 69, 68, 67]) (
 .cond (.t 78) (.skip)
 (.exit 0))) (
 .block 1 (
 sq (.reg [
 O 79 (.mov (.t 15)),
 O 80 (.bin .sub (.t 79) (.c (.i .u64 1))),
 O 15 (.mov (.t 80))] [80, 79]) (
 sq (.reg [
 O 81 (.mov (.t 16)),
 O 82 (.mov (.t 9)),
 O 83 (.bin .add (.t 81) (.t 82)),
 O 16 (.mov (.t 83))] [83, 82, 81]) (
 sq (.reg [
 O 84 (.mov (.t 16)),
 O 85 (.bin .geq (.t 84) (.c (.i .u64 4294967296)))] [84]) (
 .cond (.t 85) (.exit 0)
 (.skip))))))
def L68_1 : PC :=
 sq (sq (.reg [
 O 102 (.mov (.t 18)),
 O 103 (.bin .geq (.t 102) (.c (.i .u64 4294967296))),
 O 104 (.mov (.t 103)),
 OG 105 104 false (.mov (.t 18)),
 OG 106 104 false (.mov (.t 10)),
 OG 107 104 false (.bin .mul (.t 105) (.t 106)),
 OG 108 104 false (.mov (.t 16)),
 OG 109 104 false (.bin .mul (.c (.i .u64 4294967296)) (.t 108)),
 OG 110 104 false (.mov (.t 14)),
 OG 111 104 false (.bin .add (.t 109) (.t 110)),
 OG 112 104 false (.bin .gtr (.t 107) (.t 111)),
 O 113 (.pick (.t 104) (.c (.b true)) (.t 112))] [112, 111, 110, 109, 108, 107, 106, 105, 104, 103, 102]) (
 .cond (.t 113) (.skip)
 (.exit 2))) (
 .block 3 (
 sq (.reg [
 O 114 (.mov (.t 18)),
 O 115 (.bin .sub (.t 114) (.c (.i .u64 1))),
 O 18 (.mov (.t 115))] [115, 114]) (
 sq (.reg [
 O 116 (.mov (.t 16)),
 O 117 (.mov (.t 9)),
 O 118 (.bin .add (.t 116) (.t 117)),
 O 16 (.mov (.t 118))] [118, 117, 116]) (
 sq (.reg [
 O 119 (.mov (.t 16)),
 O 120 (.bin .geq (.t 119) (.c (.i .u64 4294967296)))] [119]) (
 .cond (.t 120) (.exit 2)
 (.skip))))))
def F68 : PF := ⟨3, [.t 6, .t 7],
 sq (.reg [
 O 6 (.mov (.c (.i .u64 0))),
 O 7 (.mov (.c (.i .u64 0)))] [7, 6]) (
 sq (sq (.reg [
 O 19 (.mov (.t 2)),
 O 20 (.bin .eql (.t 19) (.c (.i .u64 0)))] [19]) (
 .cond (.t 20) (.reg [
 O 21 (.load K0 (.g 102)),
 E (.bad)] [21])
 (.skip))) (
 sq (sq (.reg [
 O 22 (.mov (.t 2)),
 O 23 (.mov (.t 0)),
 O 24 (.bin .leq (.t 22) (.t 23))] [23, 22]) (
 .cond (.t 24) (.reg [
 O 25 (.load K0 (.g 103)),
 E (.bad)] [25])
 (.skip))) (
 sq (sq (.reg [
 O 26 (.mov (.t 0)),
 O 27 (.bin .eql (.t 26) (.c (.i .u64 0)))] [26]) (
 .cond (.t 27) (sq (.regD [
 O 28 (.mov (.t 1)),
 O 29 (.mov (.t 2)),
 O 30 (.bin .quo (.t 28) (.t 29)),
 O 31 (.mov (.t 1)),
 O 32 (.mov (.t 2)),
 O 33 (.bin .rem (.t 31) (.t 32)),
 O 6 (.mov (.t 30)),
 O 7 (.mov (.t 33))] [0, 0, 3, 0, 0, 24, 7, 127] [33, 32, 31, 30, 2, 29, 1, 28]) (
 .ret))
 (.skip))) (
 sq (.reg [
 O 34 (.mov (.t 2)),
 O 35 (.call 0 73 [(.t 34)]),
 O 36 (.conv .u64 (.t 35)),
 O 8 (.mov (.t 36))] [36, 35, 34]) (
 sq (.reg [
 O 37 (.mov (.t 2)),
 O 38 (.mov (.t 8)),
 O 39 (.bin .shl (.t 37) (.t 38)),
 O 2 (.mov (.t 39))] [39, 38, 37]) (
 sq (.reg [
 O 40 (.mov (.t 2)),
 O 41 (.bin .shr (.t 40) (.c (.i .u64 32))),
 O 9 (.mov (.t 41))] [41, 40]) (
 sq (.reg [
 O 42 (.mov (.t 2)),
 O 43 (.bin .and (.t 42) (.c (.i .u64 4294967295))),
 O 10 (.mov (.t 43))] [43, 42]) (
 sq (.reg [
 O 44 (.mov (.t 0)),
 O 45 (.mov (.t 8)),
 O 46 (.bin .shl (.t 44) (.t 45)),
 O 47 (.mov (.t 1)),
 O 48 (.mov (.t 8)),
 O 49 (.bin .sub (.c (.i .u64 64)) (.t 48)),
 O 50 (.bin .shr (.t 47) (.t 49)),
 O 51 (.bin .or (.t 46) (.t 50)),
 O 11 (.mov (.t 51))] [51, 50, 49, 48, 47, 46, 45, 0, 44]) (
 sq (.reg [
 O 52 (.mov (.t 1)),
 O 53 (.mov (.t 8)),
 O 54 (.bin .shl (.t 52) (.t 53)),
 O 12 (.mov (.t 54))] [54, 53, 1, 52]) (
 sq (.reg [
 O 55 (.mov (.t 12)),
 O 56 (.bin .shr (.t 55) (.c (.i .u64 32))),
 O 13 (.mov (.t 56))] [56, 55]) (
 sq (.reg [
 O 57 (.mov (.t 12)),
 O 58 (.bin .and (.t 57) (.c (.i .u64 4294967295))),
 O 14 (.mov (.t 58))] [58, 12, 57]) (
 sq (.reg [
 O 59 (.mov (.t 11)),
 O 60 (.mov (.t 9)),
 O 61 (.bin .quo (.t 59) (.t 60)),
 O 15 (.mov (.t 61))] [61, 60, 59]) (
 sq (.reg [
 O 62 (.mov (.t 11)),
 O 63 (.mov (.t 15)),
 O 64 (.mov (.t 9)),
 O 65 (.bin .mul (.t 63) (.t 64)),
 O 66 (.bin .sub (.t 62) (.t 65)),
 O 16 (.mov (.t 66))] [66, 65, 64, 63, 62]) (
 sq (.block 0 (
 .loop [2, 8, 9, 10, 11, 13, 14, 15, 16] L68_0)) (
 sq (.reg [
 O 86 (.mov (.t 11)),
 O 87 (.bin .mul (.t 86) (.c (.i .u64 4294967296))),
 O 88 (.mov (.t 13)),
 O 89 (.bin .add (.t 87) (.t 88)),
 O 90 (.mov (.t 15)),
 O 91 (.mov (.t 2)),
 O 92 (.bin .mul (.t 90) (.t 91)),
 O 93 (.bin .sub (.t 89) (.t 92)),
 O 17 (.mov (.t 93))] [93, 92, 91, 90, 89, 13, 88, 87, 11, 86]) (
 sq (.reg [
 O 94 (.mov (.t 17)),
 O 95 (.mov (.t 9)),
 O 96 (.bin .quo (.t 94) (.t 95)),
 O 18 (.mov (.t 96))] [96, 95, 94]) (
 sq (.reg [
 O 97 (.mov (.t 17)),
 O 98 (.mov (.t 18)),
 O 99 (.mov (.t 9)),
 O 100 (.bin .mul (.t 98) (.t 99)),
 O 101 (.bin .sub (.t 97) (.t 100)),
 O 16 (.mov (.t 101))] [101, 100, 99, 98, 97]) (
 sq (.block 2 (
 .loop [2, 8, 9, 10, 14, 15, 16, 17, 18] L68_1)) (
 sq (.reg [
 O 121 (.mov (.t 15)),
 O 122 (.bin .mul (.t 121) (.c (.i .u64 4294967296))),
 O 123 (.mov (.t 18)),
 O 124 (.bin .add (.t 122) (.t 123)),
 O 125 (.mov (.t 17)),
 O 126 (.bin .mul (.t 125) (.c (.i .u64 4294967296))),
 O 127 (.mov (.t 14)),
 O 128 (.bin .add (.t 126) (.t 127)),
 O 129 (.mov (.t 18)),
 O 130 (.mov (.t 2)),
 O 131 (.bin .mul (.t 129) (.t 130)),
 O 132 (.bin .sub (.t 128) (.t 131)),
 O 133 (.mov (.t 8)),
 O 134 (.bin .shr (.t 132) (.t 133)),
 O 6 (.mov (.t 124)),
 O 7 (.mov (.t 134))] [134, 8, 133, 132, 131, 2, 130, 129, 128, 14, 127, 126, 17, 125, 124, 18, 123, 122, 15, 121]) (
 .ret))))))))))))))))))))⟩
def L69_0 : PC :=
 sq (sq (.reg [
 O 6 (.mov (.t 5)),
 O 7 (.mov (.t 0)),
 O 8 (.len false (.t 7)),
 O 9 (.bin .lss (.t 6) (.t 8))] [8, 7, 6]) (
 .cond (.t 9) (.skip)
 (.exit 0))) (
 sq (.block 1 (
 sq (.regD [
 O 12 (.mov (.t 1)),
 O 13 (.mov (.t 0)),
 O 14 (.mov (.t 5)),
 O 15 (.iaddr (K1 2) (.t 13) (.t 14)),
 O 16 (.load (K1 2) (.t 15)),
 O 17 (.callv (.t 12) [(.t 16)]),
 O 18 (.mov (.t 1)),
 O 19 (.mov (.t 0)),
 O 20 (.mov (.t 5)),
 O 21 (.bin .sub (.t 20) (.c (I 1))),
 O 22 (.iaddr (K1 2) (.t 19) (.t 21)),
 O 23 (.load (K1 2) (.t 22)),
 O 24 (.callv (.t 18) [(.t 23)]),
 O 25 (.bin .leq (.t 17) (.t 24))] [0, 0, 0, 6, 14, 31, 0, 0, 0, 256, 896, 1920, 4095, 8191] [24, 23, 22, 21, 20, 19, 18, 17, 16, 15, 14, 13, 12]) (
 .cond (.t 25) (sq (.reg [
 O 4 (.mov (.c (.b false)))] []) (
 .ret))
 (.skip)))) (
 .reg [
 O 10 (.mov (.t 5)),
 O 11 (.bin .add (.t 10) (.c (I 1))),
 O 5 (.mov (.t 11))] [11, 10]))
def F69 : PF := ⟨2, [.t 4],
 sq (.reg [
 O 4 (.mov (.c (.b false)))] [4]) (
 sq (sq (.reg [
 O 5 (.mov (.c (I 1)))] []) (
 .block 0 (
 .loop [0, 1, 5] L69_0))) (
 sq (.reg [
 O 4 (.mov (.c (.b true)))] []) (
 .ret)))⟩
def L111_0 : PC :=
 sq (.reg [
 O 69 (.bin .lss (.t 68) (.t 67))] []) (
 sq (.cond (.t 69) (.skip)
 (.exit 1)) (
 sq (.block 2 (
 sq (.reg [
 O 70 (.iaddr (K1 3) (.t 66) (.t 68)),
 O 71 (.load (K1 3) (.t 70)),
 O 4 (.alloc (K1 3) (.a [(I 0), (I 0), (.s [])])),
 E (.store (K1 3) (.t 4) (.t 71))] [71, 70]) (
 sq (sq (.reg [
 O 72 (.faddr 0 (.t 4)),
 O 73 (.load K0 (.t 72)),
 O 74 (.bin .lss (.t 73) (.c (I 1))),
 O 75 (.mov (.t 74)),
 OG 76 75 false (.faddr 1 (.t 4)),
 OG 77 75 false (.load K0 (.t 76)),
 OG 78 75 false (.bin .eql (.t 77) (.c (I 0))),
 O 79 (.pick (.t 75) (.c (.b true)) (.t 78)),
 O 80 (.mov (.t 79)),
 OG 81 80 false (.faddr 1 (.t 4)),
 OG 82 80 false (.load K0 (.t 81)),
 OG 83 80 false (.bin .lss (.t 82) (.c (I (-1000000000000)))),
 O 84 (.pick (.t 80) (.c (.b true)) (.t 83)),
 O 85 (.mov (.t 84)),
 OG 86 85 false (.faddr 1 (.t 4)),
 OG 87 85 false (.load K0 (.t 86)),
 OG 88 85 false (.bin .gtr (.t 87) (.c (I 1000000000000))),
 O 89 (.pick (.t 85) (.c (.b true)) (.t 88))] [88, 87, 86, 85, 84, 83, 82, 81, 80, 79, 78, 77, 76, 75, 74, 73, 72]) (
 .cond (.t 89) (sq (.reg [
 O 2 (.mov (.c (I 1)))] []) (
 .ret))
 (.skip))) (
 sq (.reg [
 O 90 (.faddr 2 (.t 4)),
 O 91 (.load K0 (.t 90)),
 O 92 (.call 0 185 [(.t 91)]),
 O 93 (.un .not (.t 92))] [92, 91, 4, 90]) (
 .cond (.t 93) (sq (.reg [
 O 2 (.mov (.c (I 14)))] []) (
 .ret))
 (.skip)))))) (
 .reg [
 O 94 (.bin .add (.t 68) (.c (I 1))),
 O 68 (.mov (.t 94))] [94])))
def L111_1 : PC :=
 sq (.reg [
 O 100 (.bin .lss (.t 99) (.t 98))] []) (
 sq (.cond (.t 100) (.skip)
 (.exit 3)) (
 sq (.block 4 (
 sq (.reg [
 O 101 (.iaddr (K1 2) (.t 97) (.t 99)),
 O 102 (.load (K1 2) (.t 101)),
 O 6 (.alloc (K1 2) (.a [(.s []), (I 0)])),
 E (.store (K1 2) (.t 6) (.t 102))] [102, 101]) (
 sq (.reg [
 O 103 (.faddr 1 (.t 6)),
 O 104 (.load K0 (.t 103)),
 O 105 (.bin .neq (.t 104) (.c (I 0)))] [104, 6, 103]) (
 .cond (.t 105) (sq (.reg [
 O 2 (.mov (.c (I 15)))] []) (
 .ret))
 (.skip))))) (
 .reg [
 O 106 (.bin .add (.t 99) (.c (I 1))),
 O 99 (.mov (.t 106))] [106])))
def F111 : PF := ⟨1, [.t 2],
 sq (.reg [
 O 1 (.box (K1 10) (.t 0)),
 O 2 (.mov (.c (I 0)))] [2, 0]) (
 sq (.block 0 (
 sq (.reg [
 O 8 (.faddr 6 (.t 1)),
 O 9 (.load K0 (.t 8)),
 O 10 (.call 0 182 [(.t 9)]),
 O 11 (.un .not (.t 10)),
 O 7 (.mov (.t 11))] [11, 10, 9, 8]) (
 .cond (.t 7) (sq (.reg [
 O 2 (.mov (.c (I 4)))] []) (
 .ret))
 (sq (.reg [
 O 13 (.faddr 7 (.t 1)),
 O 14 (.load K0 (.t 13)),
 O 15 (.call 0 183 [(.t 14), (.c (.i .u8 32)), (.c (I 64))]),
 O 16 (.un .not (.t 15)),
 O 17 (.mov (.t 16)),
 OG 18 17 false (.faddr 1 (.t 1)),
 OG 19 17 false (.load K0 (.t 18)),
 OG 20 17 false (.call 0 184 [(.t 19)]),
 OG 21 17 false (.un .not (.t 20)),
 O 22 (.pick (.t 17) (.c (.b true)) (.t 21)),
 O 23 (.mov (.t 22)),
 OG 24 23 false (.faddr 2 (.t 1)),
 OG 25 23 false (.load K0 (.t 24)),
 OG 26 23 false (.call 0 184 [(.t 25)]),
 OG 27 23 false (.un .not (.t 26)),
 O 28 (.pick (.t 23) (.c (.b true)) (.t 27)),
 O 29 (.mov (.t 28)),
 OG 30 29 false (.faddr 5 (.t 1)),
 OG 31 29 false (.load K0 (.t 30)),
 OG 32 29 false (.call 0 184 [(.t 31)]),
 OG 33 29 false (.un .not (.t 32)),
 O 34 (.pick (.t 29) (.c (.b true)) (.t 33)),
 O 12 (.mov (.t 34))] [34, 33, 32, 31, 30, 29, 28, 27, 26, 25, 24, 23, 22, 21, 20, 19, 18, 17, 16, 15, 14, 13]) (
 .cond (.t 12) (sq (.reg [
 O 2 (.mov (.c (I 1)))] []) (
 .ret))
 (sq (.reg [
 O 36 (.faddr 3 (.t 1)),
 O 37 (.load K0 (.t 36)),
 O 38 (.bin .lss (.t 37) (.c (I 1))),
 O 39 (.mov (.t 38)),
 OG 40 39 false (.faddr 3 (.t 1)),
 OG 41 39 false (.load K0 (.t 40)),
 OG 42 39 false (.bin .gtr (.t 41) (.c (I 14))),
 O 43 (.pick (.t 39) (.c (.b true)) (.t 42)),
 O 44 (.mov (.t 43)),
 OG 45 44 false (.faddr 4 (.t 1)),
 OG 46 44 false (.load K0 (.t 45)),
 OG 47 44 false (.bin .lss (.t 46) (.c (I 0))),
 O 48 (.pick (.t 44) (.c (.b true)) (.t 47)),
 O 49 (.mov (.t 48)),
 OG 50 49 false (.faddr 4 (.t 1)),
 OG 51 49 false (.load K0 (.t 50)),
 OG 52 49 false (.bin .gtr (.t 51) (.c (I 3))),
 O 53 (.pick (.t 49) (.c (.b true)) (.t 52)),
 O 35 (.mov (.t 53))] [53, 52, 51, 50, 49, 48, 47, 46, 45, 44, 43, 42, 41, 40, 39, 38, 37, 36]) (
 .cond (.t 35) (sq (.reg [
 O 2 (.mov (.c (I 1)))] []) (
 .ret))
 (sq (.reg [
 O 55 (.faddr 8 (.t 1)),
 O 56 (.load K0 (.t 55)),
 O 57 (.len false (.t 56)),
 O 58 (.bin .lss (.t 57) (.c (I 2))),
 O 59 (.mov (.t 58)),
 OG 60 59 false (.faddr 8 (.t 1)),
 OG 61 59 false (.load K0 (.t 60)),
 OG 62 59 false (.len false (.t 61)),
 OG 63 59 false (.bin .gtr (.t 62) (.c (I 12))),
 O 64 (.pick (.t 59) (.c (.b true)) (.t 63)),
 O 54 (.mov (.t 64))] [64, 63, 62, 61, 60, 59, 58, 57, 56, 55]) (
 .cond (.t 54) (sq (.reg [
 O 2 (.mov (.c (I 5)))] []) (
 .ret))
 (.skip)))))))))) (
 sq (sq (.reg [
 O 65 (.faddr 8 (.t 1)),
 O 66 (.load K0 (.t 65)),
 O 67 (.len false (.t 66)),
 O 68 (.mov (.c (I 0)))] [65]) (
 .block 1 (
 .loop [1, 66, 67, 68] L111_0))) (
 sq (sq (.reg [
 O 95 (.faddr 8 (.t 1)),
 O 96 (.load K0 (.t 95)),
 O 97 (.call 0 186 [(.t 96)]),
 O 98 (.len false (.t 97)),
 O 99 (.mov (.c (I 0)))] [96, 1, 95]) (
 .block 3 (
 .loop [97, 98, 99] L111_1))) (
 sq (.reg [
 O 2 (.mov (.c (I 0)))] []) (
 .ret)))))⟩
def L168_0 : PC :=
 sq (.reg [
 O 12 (.bin .lss (.t 11) (.t 10))] []) (
 sq (.cond (.t 12) (.skip)
 (.exit 0)) (
 sq (.block 1 (
 sq (.reg [
 O 13 (.iaddr (K1 3) (.t 9) (.t 11)),
 O 14 (.load (K1 3) (.t 13)),
 O 6 (.alloc (K1 3) (.a [(I 0), (I 0), (.s [])])),
 E (.store (K1 3) (.t 6) (.t 14))] [14, 13]) (
 sq (.reg [
 O 7 (.mov (.c (I 0)))] [7]) (
 sq (sq (.reg [
 O 15 (.faddr 0 (.t 6)),
 O 16 (.load K0 (.t 15)),
 O 17 (.bin .lss (.t 16) (.c (I 1000)))] [16, 15]) (
 .cond (.t 17) (.reg [
 O 18 (.load (K1 22) (.t 2)),
 O 19 (.load (K1 3) (.t 6)),
 O 20 (.call 0 245 [(.t 18), (.t 19)]),
 O 7 (.mov (.t 20))] [20, 6, 19, 18])
 (.reg [
 O 21 (.load (K1 22) (.t 2)),
 O 22 (.load (K1 3) (.t 6)),
 O 23 (.faddr 1 (.t 3)),
 O 24 (.load K0 (.t 23)),
 O 25 (.call 0 246 [(.t 21), (.t 22), (.t 24)]),
 O 7 (.mov (.t 25))] [25, 24, 23, 6, 22, 21]))) (
 sq (.reg [
 O 26 (.mov (.t 7)),
 O 27 (.bin .neq (.t 26) (.c (I 0)))] [26]) (
 .cond (.t 27) (sq (.reg [
 O 28 (.mov (.t 7)),
 O 4 (.mov (.t 28))] [7, 28]) (
 .ret))
 (.skip))))))) (
 .reg [
 O 29 (.bin .add (.t 11) (.c (I 1))),
 O 11 (.mov (.t 29))] [29])))
def F168 : PF := ⟨2, [.t 4],
 sq (.reg [
 O 2 (.box (K1 22) (.t 0)),
 O 3 (.box (K1 10) (.t 1)),
 O 4 (.mov (.c (I 0)))] [4, 1, 0]) (
 sq (sq (.reg [
 O 8 (.faddr 8 (.t 3)),
 O 9 (.load K0 (.t 8)),
 O 10 (.len false (.t 9)),
 O 11 (.mov (.c (I 0)))] [8]) (
 .block 0 (
 .loop [2, 3, 9, 10, 11] L168_0))) (
 sq (.reg [
 O 4 (.mov (.c (I 0)))] []) (
 .ret)))⟩
def F182 : PF := ⟨1, [.t 2],
 sq (.reg [
 O 2 (.mov (.c (.b false)))] [2]) (
 sq (.reg [
 O 3 (.mov (.t 0)),
 O 4 (.bin .neq (.t 3) (.c (.s []))),
 O 5 (.mov (.t 4)),
 OG 6 5 true (.mov (.t 0)),
 OG 7 5 true (.call 0 183 [(.t 6), (.c (.i .u8 33)), (.c (I 48))]),
 O 8 (.pick (.t 5) (.t 7) (.c (.b false))),
 O 2 (.mov (.t 8))] [8, 7, 6, 5, 4, 0, 3]) (
 .ret))⟩
def L183_0 : PC :=
 sq (.reg [
 O 11 (.bin .lss (.t 10) (.t 9))] []) (
 sq (.cond (.t 11) (.skip)
 (.exit 0)) (
 sq (.block 1 (
 sq (.reg [
 O 12 (.mov (.t 10)),
 O 7 (.mov (.t 12))] [12]) (
 sq (.reg [
 O 13 (.mov (.t 0)),
 O 14 (.mov (.t 7)),
 O 15 (.idxS (.t 13) (.t 14)),
 O 16 (.mov (.t 1)),
 O 17 (.bin .lss (.t 15) (.t 16)),
 O 18 (.mov (.t 17)),
 OG 19 18 false (.mov (.t 0)),
 OG 20 18 false (.mov (.t 7)),
 OG 21 18 false (.idxS (.t 19) (.t 20)),
 OG 22 18 false (.bin .gtr (.t 21) (.c (.i .u8 126))),
 O 23 (.pick (.t 18) (.c (.b true)) (.t 22))] [22, 21, 20, 19, 18, 17, 16, 15, 7, 14, 13]) (
 .cond (.t 23) (sq (.reg [
 O 6 (.mov (.c (.b false)))] []) (
 .ret))
 (.skip))))) (
 .reg [
 O 24 (.bin .add (.t 10) (.c (I 1))),
 O 10 (.mov (.t 24))] [24])))
def F183 : PF := ⟨3, [.t 6],
 sq (.reg [
 O 6 (.mov (.c (.b false)))] [6]) (
 sq (sq (.reg [
 O 8 (.mov (.t 0)),
 O 9 (.len true (.t 8)),
 O 10 (.mov (.c (I 0)))] [8]) (
 .block 0 (
 .loop [0, 1, 2, 9, 10] L183_0))) (
 sq (.reg [
 O 25 (.mov (.t 0)),
 O 26 (.len true (.t 25)),
 O 27 (.mov (.t 2)),
 O 28 (.bin .leq (.t 26) (.t 27)),
 O 6 (.mov (.t 28))] [28, 2, 27, 26, 0, 25]) (
 .ret)))⟩
def F184 : PF := ⟨1, [.t 2],
 sq (.reg [
 O 2 (.mov (.c (.b false)))] [2]) (
 sq (.reg [
 O 3 (.mov (.t 0)),
 O 4 (.bin .geq (.t 3) (.c (I 0))),
 O 5 (.mov (.t 4)),
 OG 6 5 true (.mov (.t 0)),
 OG 7 5 true (.bin .leq (.t 6) (.c (I 73048))),
 O 8 (.pick (.t 5) (.t 7) (.c (.b false))),
 O 2 (.mov (.t 8))] [8, 7, 6, 5, 4, 0, 3]) (
 .ret))⟩
def L185_0 : PC :=
 sq (.reg [
 O 7 (.bin .lss (.t 6) (.t 5))] []) (
 sq (.cond (.t 7) (.skip)
 (.exit 0)) (
 sq (.block 1 (
 sq (.reg [
 O 8 (.mov (.t 6)),
 O 3 (.mov (.t 8))] [8]) (
 sq (.reg [
 O 9 (.mov (.t 0)),
 O 10 (.mov (.t 3)),
 O 11 (.idxS (.t 9) (.t 10)),
 O 12 (.bin .lss (.t 11) (.c (.i .u8 65))),
 O 13 (.mov (.t 12)),
 OG 14 13 false (.mov (.t 0)),
 OG 15 13 false (.mov (.t 3)),
 OG 16 13 false (.idxS (.t 14) (.t 15)),
 OG 17 13 false (.bin .gtr (.t 16) (.c (.i .u8 90))),
 O 18 (.pick (.t 13) (.c (.b true)) (.t 17))] [17, 16, 15, 14, 13, 12, 11, 3, 10, 9]) (
 .cond (.t 18) (sq (.reg [
 O 2 (.mov (.c (.b false)))] []) (
 .ret))
 (.skip))))) (
 .reg [
 O 19 (.bin .add (.t 6) (.c (I 1))),
 O 6 (.mov (.t 19))] [19])))
def F185 : PF := ⟨1, [.t 2],
 sq (.reg [
 O 2 (.mov (.c (.b false)))] [2]) (
 sq (sq (.reg [
 O 4 (.mov (.t 0)),
 O 5 (.len true (.t 4)),
 O 6 (.mov (.c (I 0)))] [4]) (
 .block 0 (
 .loop [0, 5, 6] L185_0))) (
 sq (.reg [
 O 20 (.mov (.t 0)),
 O 21 (.len true (.t 20)),
 O 22 (.bin .eql (.t 21) (.c (I 3))),
 O 2 (.mov (.t 22))] [22, 21, 0, 20]) (
 .ret)))⟩
def L186_0 : PC :=
 sq (.reg [
 O 11 (.bin .lss (.t 10) (.t 9))] []) (
 sq (.cond (.t 11) (.skip)
 (.exit 0)) (
 sq (.block 1 (
 sq (.reg [
 O 12 (.iaddr (K1 3) (.t 8) (.t 10)),
 O 13 (.load (K1 3) (.t 12)),
 O 5 (.alloc (K1 3) (.a [(I 0), (I 0), (.s [])])),
 E (.store (K1 3) (.t 5) (.t 13))] [13, 12]) (
 sq (.reg [
 O 15 (.mov (.t 3)),
 O 16 (.faddr 2 (.t 5)),
 O 17 (.load K0 (.t 16)),
 O 18 (.call 2 266 [(.t 15), (.t 17), (.f 267)]),
 O 14 (.mov (.t 18)),
 O 19 (.ext (.t 14) 0),
 O 20 (.ext (.t 14) 1),
 O 6 (.mov (.t 19)),
 O 7 (.mov (.t 20))] [20, 19, 14, 18, 17, 16, 15]) (
 sq (sq (.reg [
 O 21 (.mov (.t 7)),
 O 22 (.un .not (.t 21))] [7, 21]) (
 .cond (.t 22) (.reg [
 O 23 (.mov (.t 3)),
 O 24 (.mov (.t 6)),
 O 25 (.faddr 2 (.t 5)),
 O 26 (.load K0 (.t 25)),
 O 27 (.agg [(.s []), (I 0)] [(0, K0, (.t 26))]),
 O 28 (.bsl (K1 2) (.a [(.s []), (I 0)]) 1 [(0, (.t 27))]),
 O 29 (.call 2 269 [(.t 23), (.t 24), (.t 28)]),
 O 3 (.mov (.t 29))] [29, 28, 27, 26, 25, 24, 23])
 (.skip))) (
 .regD [
 O 30 (.mov (.t 3)),
 O 31 (.mov (.t 6)),
 O 32 (.iaddr (K1 2) (.t 30) (.t 31)),
 O 33 (.faddr 1 (.t 32)),
 O 34 (.load K0 (.t 33)),
 O 35 (.faddr 1 (.t 5)),
 O 36 (.load K0 (.t 35)),
 O 37 (.bin .add (.t 34) (.t 36)),
 O 38 (.iaddr (K1 2) (.t 30) (.t 31)),
 O 39 (.faddr 1 (.t 38)),
 E (.store K0 (.t 39) (.t 37))] [0, 0, 3, 7, 15, 0, 32, 127, 255, 511, 1023] [39, 38, 37, 36, 5, 35, 34, 33, 32, 6, 31, 30]))))) (
 .reg [
 O 40 (.bin .add (.t 10) (.c (I 1))),
 O 10 (.mov (.t 40))] [40])))
def F186 : PF := ⟨1, [.t 2],
 sq (.reg [
 O 2 (.mov (.c (.l (K1 2) [] true)))] [2]) (
 sq (.reg [
 O 3 (.mov (.c (.l (K1 2) [] true)))] []) (
 sq (sq (.reg [
 O 8 (.mov (.t 0)),
 O 9 (.len false (.t 8)),
 O 10 (.mov (.c (I 0)))] [0]) (
 .block 0 (
 .loop [3, 8, 9, 10] L186_0))) (
 sq (.reg [
 O 41 (.mov (.t 3)),
 O 2 (.mov (.t 41))] [3, 41]) (
 .ret))))⟩
def F242 : PF := ⟨1, [.t 2, .t 3],
 sq (.reg [
 O 2 (.mov (.c (.i .u64 0))),
 O 3 (.mov (.c (I 0)))] [3, 2]) (
 sq (sq (.reg [
 O 4 (.mov (.t 0)),
 O 5 (.len false (.t 4)),
 O 6 (.bin .eql (.t 5) (.c (I 0)))] [5, 4]) (
 .cond (.t 6) (sq (.reg [
 O 2 (.mov (.c (.i .u64 0))),
 O 3 (.mov (.c (I (-1))))] []) (
 .ret))
 (.skip))) (
 sq (.regD [
 O 7 (.mov (.t 0)),
 O 8 (.mov (.t 0)),
 O 9 (.len false (.t 8)),
 O 10 (.bin .sub (.t 9) (.c (I 1))),
 O 11 (.iaddr (K1 10) (.t 7) (.t 10)),
 O 12 (.faddr 9 (.t 11)),
 O 13 (.load K0 (.t 12)),
 O 14 (.mov (.t 0)),
 O 15 (.mov (.t 0)),
 O 16 (.len false (.t 15)),
 O 17 (.bin .sub (.t 16) (.c (I 1))),
 O 18 (.iaddr (K1 10) (.t 14) (.t 17)),
 O 19 (.faddr 1 (.t 18)),
 O 20 (.load K0 (.t 19)),
 O 2 (.mov (.t 13)),
 O 3 (.mov (.t 20))] [0, 0, 2, 6, 15, 31, 63, 0, 0, 256, 768, 1920, 3968, 8064, 127, 32767] [20, 19, 18, 17, 16, 15, 14, 13, 12, 11, 10, 9, 8, 0, 7]) (
 .ret)))⟩
def F243 : PF := ⟨3, [.c 6 (K1 10)],
 sq (.reg [
 O 3 (.box (K1 10) (.t 0)),
 O 6 (.alloc (K1 10) (.a [(I 0), (I 0), (I 0), (I 0), (I 0), (I 0), (.s []), (.s []), (.l (K1 3) [] true), (.i .u64 0)]))] [0]) (
 sq (.reg [
 O 7 (.mov (.t 1)),
 O 8 (.bin .add (.t 7) (.c (I 1))),
 O 9 (.faddr 0 (.t 3)),
 E (.store K0 (.t 9) (.t 8))] [9, 8, 1, 7]) (
 sq (.reg [
 O 10 (.faddr 8 (.t 3)),
 O 11 (.load K0 (.t 10)),
 O 12 (.call 1 15 [(.t 11)]),
 O 13 (.faddr 8 (.t 3)),
 E (.store K0 (.t 13) (.t 12))] [13, 12, 11, 10]) (
 sq (.reg [
 O 14 (.mov (.t 2)),
 O 15 (.load (K1 10) (.t 3)),
 O 16 (.call 0 327 [(.t 15)]),
 O 17 (.call 0 326 [(.t 14), (.t 16)]),
 O 18 (.faddr 9 (.t 3)),
 E (.store K0 (.t 18) (.t 17))] [18, 17, 16, 15, 2, 14]) (
 sq (.reg [
 O 19 (.load (K1 10) (.t 3)),
 E (.store (K1 10) (.t 6) (.t 19))] [3, 19]) (
 .ret)))))⟩
def L244_0 : PC :=
 sq (.reg [
 O 9 (.bin .lss (.t 8) (.t 7))] []) (
 sq (.cond (.t 9) (.skip)
 (.exit 0)) (
 sq (.block 1 (
 sq (.reg [
 O 10 (.mov (.t 8)),
 O 5 (.mov (.t 10))] [10]) (
 sq (.reg [
 O 11 (.mov (.t 1)),
 O 12 (.mov (.t 0)),
 O 13 (.mov (.t 5)),
 O 14 (.iaddr (K1 10) (.t 12) (.t 13)),
 O 15 (.load (K1 10) (.t 14)),
 O 16 (.callv (.t 11) [(.t 15)])] [15, 14, 13, 12, 11]) (
 .cond (.t 16) (sq (.reg [
 O 17 (.mov (.t 5)),
 O 4 (.mov (.t 17))] [5, 17]) (
 .ret))
 (.skip))))) (
 .reg [
 O 18 (.bin .add (.t 8) (.c (I 1))),
 O 8 (.mov (.t 18))] [18])))
def F244 : PF := ⟨2, [.t 4],
 sq (.reg [
 O 4 (.mov (.c (I 0)))] [4]) (
 sq (sq (.reg [
 O 6 (.mov (.t 0)),
 O 7 (.len false (.t 6)),
 O 8 (.mov (.c (I 0)))] [6]) (
 .block 0 (
 .loop [0, 1, 7, 8] L244_0))) (
 sq (.reg [
 O 4 (.mov (.c (I (-1))))] []) (
 .ret)))⟩
def F245 : PF := ⟨2, [.t 4],
 sq (.reg [
 O 2 (.box (K1 22) (.t 0)),
 O 3 (.box (K1 3) (.t 1)),
 O 4 (.mov (.c (I 0)))] [4, 1, 0]) (
 sq (sq (.reg [
 O 10 (.faddr 2 (.t 2)),
 O 11 (.load K0 (.t 10)),
 O 12 (.faddr 0 (.t 3)),
 O 13 (.load K0 (.t 12)),
 O 14 (.call 0 318 [(.t 11), (.t 13)]),
 O 9 (.mov (.t 14)),
 O 15 (.ext (.t 9) 0),
 O 16 (.ext (.t 9) 1),
 O 5 (.alloc (K1 4) (.a [(I 0), (I 0), (I 0), (.s [])])),
 E (.store (K1 4) (.t 5) (.t 15)),
 O 6 (.mov (.t 16))] [5, 16, 15, 9, 14, 13, 12, 11, 10]) (
 sq (.reg [
 O 17 (.mov (.t 6)),
 O 18 (.un .not (.t 17)),
 O 19 (.mov (.t 18)),
 OG 20 19 false (.faddr 2 (.t 2)),
 OG 21 19 false (.load K0 (.t 20)),
 OG 22 19 false (.mkf 329 [(.t 3)]),
 OG 23 19 false (.call 2 328 [(.t 21), (.t 22)]),
 O 24 (.pick (.t 19) (.c (.b true)) (.t 23))] [23, 22, 21, 20, 19, 18, 6, 17]) (
 .cond (.t 24) (sq (.reg [
 O 4 (.mov (.c (I 11)))] []) (
 .ret))
 (.skip)))) (
 sq (sq (.reg [
 O 26 (.faddr 0 (.t 2)),
 O 27 (.load K0 (.t 26)),
 O 28 (.faddr 2 (.t 3)),
 O 29 (.load K0 (.t 28)),
 O 30 (.call 0 330 [(.t 27), (.t 29)]),
 O 25 (.mov (.t 30)),
 O 31 (.ext (.t 25) 0),
 O 32 (.ext (.t 25) 1),
 O 7 (.alloc (K1 2) (.a [(.s []), (I 0)])),
 E (.store (K1 2) (.t 7) (.t 31)),
 O 8 (.mov (.t 32))] [7, 32, 31, 25, 30, 29, 3, 28, 27, 2, 26]) (
 sq (.reg [
 O 33 (.mov (.t 8)),
 O 34 (.un .not (.t 33))] [8, 33]) (
 .cond (.t 34) (sq (.reg [
 O 4 (.mov (.c (I 14)))] []) (
 .ret))
 (.skip)))) (
 sq (.reg [
 O 4 (.mov (.c (I 0)))] []) (
 .ret))))⟩
def F246 : PF := ⟨3, [.t 6],
 sq (.reg [
 O 3 (.box (K1 22) (.t 0)),
 O 4 (.box (K1 3) (.t 1)),
 O 6 (.mov (.c (I 0)))] [6, 1, 0]) (
 sq (.reg [
 O 14 (.load (K1 22) (.t 3)),
 O 15 (.faddr 0 (.t 4)),
 O 16 (.load K0 (.t 15)),
 O 17 (.call 0 12 [(.t 14), (.t 16)]),
 O 13 (.mov (.t 17)),
 O 18 (.ext (.t 13) 0),
 O 19 (.ext (.t 13) 1),
 O 7 (.alloc (K1 7) (.a [(I 0), (I 0), (I 0), (I 0), (.s []), (.s []), (.s [])])),
 E (.store (K1 7) (.t 7) (.t 18)),
 O 8 (.mov (.t 19))] [19, 18, 13, 17, 16, 15, 14]) (
 sq (sq (.reg [
 O 20 (.mov (.t 8)),
 O 21 (.un .not (.t 20))] [8, 20]) (
 .cond (.t 21) (sq (.reg [
 O 6 (.mov (.c (I 11)))] []) (
 .ret))
 (.skip))) (
 sq (sq (.reg [
 O 23 (.faddr 0 (.t 3)),
 O 24 (.load K0 (.t 23)),
 O 25 (.faddr 2 (.t 4)),
 O 26 (.load K0 (.t 25)),
 O 27 (.call 0 330 [(.t 24), (.t 26)]),
 O 22 (.mov (.t 27)),
 O 28 (.ext (.t 22) 0),
 O 29 (.ext (.t 22) 1),
 O 9 (.alloc (K1 2) (.a [(.s []), (I 0)])),
 E (.store (K1 2) (.t 9) (.t 28)),
 O 10 (.mov (.t 29))] [9, 29, 28, 22, 27, 26, 25, 24, 23]) (
 sq (.reg [
 O 30 (.mov (.t 10)),
 O 31 (.un .not (.t 30))] [10, 30]) (
 .cond (.t 31) (sq (.reg [
 O 6 (.mov (.c (I 14)))] []) (
 .ret))
 (.skip)))) (
 sq (sq (.reg [
 O 33 (.load (K1 22) (.t 3)),
 O 34 (.load (K1 7) (.t 7)),
 O 35 (.call 0 331 [(.t 33), (.t 34)]),
 O 32 (.mov (.t 35)),
 O 36 (.ext (.t 32) 0),
 O 37 (.ext (.t 32) 1),
 O 11 (.mov (.t 36)),
 O 12 (.mov (.t 37))] [37, 36, 32, 35, 7, 34, 33]) (
 sq (.reg [
 O 38 (.mov (.t 12)),
 O 39 (.un .not (.t 38)),
 O 40 (.mov (.t 39)),
 OG 41 40 false (.mov (.t 11)),
 OG 42 40 false (.faddr 2 (.t 4)),
 OG 43 40 false (.load K0 (.t 42)),
 OG 44 40 false (.bin .neq (.t 41) (.t 43)),
 O 45 (.pick (.t 40) (.c (.b true)) (.t 44))] [44, 43, 42, 11, 41, 40, 39, 12, 38]) (
 .cond (.t 45) (sq (.reg [
 O 6 (.mov (.c (I 14)))] []) (
 .ret))
 (.skip)))) (
 sq (sq (.reg [
 O 46 (.load (K1 22) (.t 3)),
 O 47 (.faddr 0 (.t 4)),
 O 48 (.load K0 (.t 47)),
 O 49 (.mov (.t 2)),
 O 50 (.call 0 39 [(.t 46), (.t 48), (.t 49)]),
 O 51 (.un .not (.t 50))] [50, 2, 49, 48, 4, 47, 3, 46]) (
 .cond (.t 51) (sq (.reg [
 O 6 (.mov (.c (I 16)))] []) (
 .ret))
 (.skip))) (
 sq (.reg [
 O 6 (.mov (.c (I 0)))] []) (
 .ret)))))))⟩
def L266_0 : PC :=
 sq (sq (.reg [
 O 15 (.mov (.t 9)),
 O 16 (.mov (.t 10)),
 O 17 (.bin .lss (.t 15) (.t 16))] [16, 15]) (
 .cond (.t 17) (.skip)
 (.exit 0))) (
 .block 1 (
 sq (.reg [
 O 18 (.mov (.t 9)),
 O 19 (.mov (.t 10)),
 O 20 (.bin .add (.t 18) (.t 19)),
 O 21 (.conv .u64 (.t 20)),
 O 22 (.bin .shr (.t 21) (.c (.i .u64 1))),
 O 23 (.conv .i64 (.t 22)),
 O 11 (.mov (.t 23))] [23, 22, 21, 20, 19, 18]) (
 sq (.reg [
 O 24 (.mov (.t 2)),
 O 25 (.mov (.t 0)),
 O 26 (.mov (.t 11)),
 O 27 (.iaddr (K1 2) (.t 25) (.t 26)),
 O 28 (.load (K1 2) (.t 27)),
 O 29 (.mov (.t 1)),
 O 30 (.callv (.t 24) [(.t 28), (.t 29)]),
 O 31 (.bin .lss (.t 30) (.c (I 0)))] [30, 29, 28, 27, 26, 25, 24]) (
 .cond (.t 31) (.reg [
 O 32 (.mov (.t 11)),
 O 33 (.bin .add (.t 32) (.c (I 1))),
 O 9 (.mov (.t 33))] [33, 11, 32])
 (.reg [
 O 34 (.mov (.t 11)),
 O 10 (.mov (.t 34))] [11, 34])))))
def F266 : PF := ⟨3, [.t 6, .t 7],
 sq (.reg [
 O 6 (.mov (.c (I 0))),
 O 7 (.mov (.c (.b false)))] [7, 6]) (
 sq (.reg [
 O 12 (.mov (.t 0)),
 O 13 (.len false (.t 12)),
 O 8 (.mov (.t 13))] [13, 12]) (
 sq (.reg [
 O 14 (.mov (.t 8)),
 O 9 (.mov (.c (I 0))),
 O 10 (.mov (.t 14))] [14]) (
 sq (.block 0 (
 .loop [0, 1, 2, 8, 9, 10] L266_0)) (
 sq (.reg [
 O 35 (.mov (.t 9)),
 O 36 (.mov (.t 9)),
 O 37 (.mov (.t 8)),
 O 38 (.bin .lss (.t 36) (.t 37)),
 O 39 (.mov (.t 38)),
 OG 40 39 true (.mov (.t 2)),
 OG 41 39 true (.mov (.t 0)),
 OG 42 39 true (.mov (.t 9)),
 OG 43 39 true (.iaddr (K1 2) (.t 41) (.t 42)),
 OG 44 39 true (.load (K1 2) (.t 43)),
 OG 45 39 true (.mov (.t 1)),
 OG 46 39 true (.callv (.t 40) [(.t 44), (.t 45)]),
 OG 47 39 true (.bin .eql (.t 46) (.c (I 0))),
 O 48 (.pick (.t 39) (.t 47) (.c (.b false))),
 O 6 (.mov (.t 35)),
 O 7 (.mov (.t 48))] [48, 47, 46, 1, 45, 44, 43, 42, 0, 41, 2, 40, 39, 38, 8, 37, 36, 9, 35]) (
 .ret)))))⟩
def F267 : PF := ⟨2, [.t 4],
 sq (.reg [
 O 2 (.box (K1 2) (.t 0)),
 O 4 (.mov (.c (I 0)))] [4, 0]) (
 sq (.reg [
 O 5 (.faddr 0 (.t 2)),
 O 6 (.load K0 (.t 5)),
 O 7 (.mov (.t 1)),
 O 8 (.call 0 268 [(.t 6), (.t 7)]),
 O 4 (.mov (.t 8))] [8, 1, 7, 6, 2, 5]) (
 .ret))⟩
def L318_0 : PC :=
 sq (.reg [
 O 11 (.bin .lss (.t 10) (.t 9))] []) (
 sq (.cond (.t 11) (.skip)
 (.exit 0)) (
 sq (.block 1 (
 sq (.reg [
 O 12 (.iaddr (K1 4) (.t 8) (.t 10)),
 O 13 (.load (K1 4) (.t 12)),
 O 7 (.alloc (K1 4) (.a [(I 0), (I 0), (I 0), (.s [])])),
 E (.store (K1 4) (.t 7) (.t 13))] [13, 12]) (
 sq (.reg [
 O 14 (.faddr 0 (.t 7)),
 O 15 (.load K0 (.t 14)),
 O 16 (.mov (.t 1)),
 O 17 (.bin .eql (.t 15) (.t 16))] [16, 15, 14]) (
 .cond (.t 17) (sq (.reg [
 O 18 (.load (K1 4) (.t 7)),
 E (.store (K1 4) (.t 4) (.t 18)),
 O 5 (.mov (.c (.b true)))] [7, 18]) (
 .ret))
 (.skip))))) (
 .reg [
 O 19 (.bin .add (.t 10) (.c (I 1))),
 O 10 (.mov (.t 19))] [19])))
def F318 : PF := ⟨2, [.c 4 (K1 4), .t 5],
 sq (.reg [
 O 4 (.alloc (K1 4) (.a [(I 0), (I 0), (I 0), (.s [])])),
 O 5 (.mov (.c (.b false)))] [5]) (
 sq (sq (.reg [
 O 8 (.mov (.t 0)),
 O 9 (.len false (.t 8)),
 O 10 (.mov (.c (I 0)))] [0]) (
 .block 0 (
 .loop [1, 4, 8, 9, 10] L318_0))) (
 sq (.reg [
 O 20 (.agg [(I 0), (I 0), (I 0), (.s [])] []),
 E (.store (K1 4) (.t 4) (.t 20)),
 O 5 (.mov (.c (.b false)))] [20]) (
 .ret)))⟩
def F326 : PF := ⟨2, [.t 4],
 sq (.reg [
 O 4 (.mov (.c (.i .u64 0)))] [4]) (
 sq (.reg [
 O 5 (.mov (.t 0)),
 O 6 (.call 0 375 [(.c (.i .u64 14695981039346656037)), (.t 5)]),
 O 7 (.mov (.t 1)),
 O 8 (.call 0 374 [(.t 6), (.t 7)]),
 O 4 (.mov (.t 8))] [8, 1, 7, 6, 0, 5]) (
 .ret))⟩
def L327_0 : PC :=
 sq (.reg [
 O 13 (.bin .lss (.t 12) (.t 11))] []) (
 sq (.cond (.t 13) (.skip)
 (.exit 0)) (
 sq (.block 1 (
 sq (.reg [
 O 14 (.iaddr (K1 3) (.t 10) (.t 12)),
 O 15 (.load (K1 3) (.t 14)),
 O 6 (.alloc (K1 3) (.a [(I 0), (I 0), (.s [])])),
 E (.store (K1 3) (.t 6) (.t 15))] [15, 14]) (
 .regD [
 O 16 (.mov (.t 3)),
 O 17 (.faddr 0 (.t 6)),
 O 18 (.load K0 (.t 17)),
 O 19 (.call 0 363 [(.t 18)]),
 O 20 (.faddr 1 (.t 6)),
 O 21 (.load K0 (.t 20)),
 O 22 (.call 0 363 [(.t 21)]),
 O 23 (.faddr 2 (.t 6)),
 O 24 (.load K0 (.t 23)),
 O 25 (.bsl K0 (.s []) 3 [(0, (.t 19)), (1, (.t 22)), (2, (.t 24))]),
 O 26 (.call 0 362 [(.t 25)]),
 O 27 (.bsl K0 (.s []) 1 [(0, (.t 26))]),
 O 28 (.app K0 16 (.t 16) (.t 27)),
 O 3 (.mov (.t 28))] [0, 0, 2, 6, 0, 16, 62, 0, 128, 510, 1022, 2046, 4095, 8191] [28, 27, 26, 25, 24, 23, 22, 21, 20, 19, 18, 6, 17, 16]))) (
 .reg [
 O 29 (.bin .add (.t 12) (.c (I 1))),
 O 12 (.mov (.t 29))] [29])))
def L327_1 : PC :=
 sq (.reg [
 O 44 (.bin .lss (.t 43) (.c (I 6)))] []) (
 sq (.cond (.t 44) (.skip)
 (.exit 2)) (
 sq (.block 3 (
 sq (.reg [
 O 45 (.idxA 6 K0 (.t 42) (.t 43)),
 O 8 (.mov (.t 45))] [45]) (
 .reg [
 O 46 (.mov (.t 4)),
 O 47 (.mov (.t 8)),
 O 48 (.call 0 363 [(.t 47)]),
 O 49 (.bsl K0 (.s []) 1 [(0, (.t 48))]),
 O 50 (.app K0 16 (.t 46) (.t 49)),
 O 4 (.mov (.t 50))] [50, 49, 48, 8, 47, 46]))) (
 .reg [
 O 51 (.bin .add (.t 43) (.c (I 1))),
 O 43 (.mov (.t 51))] [51])))
def F327 : PF := ⟨1, [.t 2],
 sq (.reg [
 O 1 (.box (K1 10) (.t 0)),
 O 2 (.mov (.c (.s [])))] [2, 0]) (
 sq (.reg [
 O 3 (.mov (.c (.l K0 [] true))),
 O 4 (.mov (.c (.l K0 [] true)))] []) (
 sq (sq (.reg [
 O 9 (.faddr 8 (.t 1)),
 O 10 (.load K0 (.t 9)),
 O 11 (.len false (.t 10)),
 O 12 (.mov (.c (I 0)))] [9]) (
 .block 0 (
 .loop [1, 3, 4, 10, 11, 12] L327_0))) (
 sq (sq (.reg [
 O 30 (.faddr 0 (.t 1)),
 O 31 (.load K0 (.t 30)),
 O 32 (.faddr 1 (.t 1)),
 O 33 (.load K0 (.t 32)),
 O 34 (.faddr 2 (.t 1)),
 O 35 (.load K0 (.t 34)),
 O 36 (.faddr 3 (.t 1)),
 O 37 (.load K0 (.t 36)),
 O 38 (.faddr 4 (.t 1)),
 O 39 (.load K0 (.t 38)),
 O 40 (.faddr 5 (.t 1)),
 O 41 (.load K0 (.t 40)),
 O 42 (.agg [(I 0), (I 0), (I 0), (I 0), (I 0), (I 0)] [(0, K0, (.t 31)), (1, K0, (.t 33)), (2, K0, (.t 35)), (3, K0, (.t 37)), (4, K0, (.t 39)), (5, K0, (.t 41))]),
 O 43 (.mov (.c (I 0)))] [41, 40, 39, 38, 37, 36, 35, 34, 33, 32, 31, 30]) (
 .block 2 (
 .loop [1, 3, 4, 42, 43] L327_1))) (
 sq (.regD [
 O 52 (.mov (.t 4)),
 O 53 (.faddr 6 (.t 1)),
 O 54 (.load K0 (.t 53)),
 O 55 (.faddr 7 (.t 1)),
 O 56 (.load K0 (.t 55)),
 O 57 (.mov (.t 3)),
 O 58 (.call 0 362 [(.t 57)]),
 O 59 (.bsl K0 (.s []) 3 [(0, (.t 54)), (1, (.t 56)), (2, (.t 58))]),
 O 60 (.app K0 16 (.t 52) (.t 59)),
 O 61 (.call 0 362 [(.t 60)]),
 O 2 (.mov (.t 61))] [0, 0, 2, 0, 8, 0, 32, 126, 255, 511, 1023] [61, 60, 59, 58, 3, 57, 56, 55, 54, 1, 53, 4, 52]) (
 .ret)))))⟩
def F328 : PF := ⟨2, [.t 4],
 sq (.reg [
 O 4 (.mov (.c (.b false)))] [4]) (
 sq (.reg [
 O 5 (.mov (.t 0)),
 O 6 (.mov (.t 1)),
 O 7 (.call 2 376 [(.t 5), (.t 6)]),
 O 8 (.bin .geq (.t 7) (.c (I 0))),
 O 4 (.mov (.t 8))] [8, 7, 1, 6, 0, 5]) (
 .ret))⟩
def F329 : PF := ⟨2, [.t 3],
 sq (.reg [
 O 2 (.box (K1 4) (.t 0)),
 O 3 (.mov (.c (.b false)))] [3, 0]) (
 sq (.reg [
 O 4 (.faddr 1 (.t 2)),
 O 5 (.load K0 (.t 4)),
 O 6 (.faddr 0 (.t 1)),
 O 7 (.load K0 (.t 6)),
 O 8 (.bin .eql (.t 5) (.t 7)),
 O 3 (.mov (.t 8))] [8, 7, 1, 6, 5, 2, 4]) (
 .ret))⟩
def L330_0 : PC :=
 sq (.reg [
 O 11 (.bin .lss (.t 10) (.t 9))] []) (
 sq (.cond (.t 11) (.skip)
 (.exit 0)) (
 sq (.block 1 (
 sq (.reg [
 O 12 (.iaddr (K1 2) (.t 8) (.t 10)),
 O 13 (.load (K1 2) (.t 12)),
 O 7 (.alloc (K1 2) (.a [(.s []), (I 0)])),
 E (.store (K1 2) (.t 7) (.t 13))] [13, 12]) (
 sq (.reg [
 O 14 (.faddr 0 (.t 7)),
 O 15 (.load K0 (.t 14)),
 O 16 (.mov (.t 1)),
 O 17 (.bin .eql (.t 15) (.t 16))] [16, 15, 14]) (
 .cond (.t 17) (sq (.reg [
 O 18 (.load (K1 2) (.t 7)),
 E (.store (K1 2) (.t 4) (.t 18)),
 O 5 (.mov (.c (.b true)))] [7, 18]) (
 .ret))
 (.skip))))) (
 .reg [
 O 19 (.bin .add (.t 10) (.c (I 1))),
 O 10 (.mov (.t 19))] [19])))
def F330 : PF := ⟨2, [.c 4 (K1 2), .t 5],
 sq (.reg [
 O 4 (.alloc (K1 2) (.a [(.s []), (I 0)])),
 O 5 (.mov (.c (.b false)))] [5]) (
 sq (sq (.reg [
 O 8 (.mov (.t 0)),
 O 9 (.len false (.t 8)),
 O 10 (.mov (.c (I 0)))] [0]) (
 .block 0 (
 .loop [1, 4, 8, 9, 10] L330_0))) (
 sq (.reg [
 O 20 (.agg [(.s []), (I 0)] []),
 E (.store (K1 2) (.t 4) (.t 20)),
 O 5 (.mov (.c (.b false)))] [20]) (
 .ret)))⟩
def F331 : PF := ⟨2, [.t 4, .t 5],
 sq (.reg [
 O 2 (.box (K1 22) (.t 0)),
 O 3 (.box (K1 7) (.t 1)),
 O 4 (.mov (.c (.s []))),
 O 5 (.mov (.c (.b false)))] [5, 4, 1, 0]) (
 sq (.reg [
 O 9 (.faddr 17 (.t 2)),
 O 10 (.load K0 (.t 9)),
 O 11 (.faddr 5 (.t 3)),
 O 12 (.load K0 (.t 11)),
 O 13 (.faddr 1 (.t 3)),
 O 14 (.load K0 (.t 13)),
 O 15 (.call 0 30 [(.t 10), (.t 12), (.t 14)]),
 O 8 (.mov (.t 15)),
 O 16 (.ext (.t 8) 0),
 O 17 (.ext (.t 8) 1),
 O 6 (.alloc (K1 19) (.a [(.s []), (.s []), (.s []), (I 0), (I 0), (I 0), (I 0), (.l (K1 2) [] true), (.b false), (I 0), (I 0), (.b false), (.l (K1 2) [] true), (.b false), (I 0), (I 0), (.b false), (.l (K1 10) [] true), (.l (K1 6) [] true)])),
 E (.store (K1 19) (.t 6) (.t 16)),
 O 7 (.mov (.t 17))] [17, 16, 8, 15, 14, 13, 12, 3, 11, 10, 2, 9]) (
 sq (.reg [
 O 18 (.faddr 1 (.t 6)),
 O 19 (.load K0 (.t 18)),
 O 20 (.mov (.t 7)),
 O 4 (.mov (.t 19)),
 O 5 (.mov (.t 20))] [7, 20, 19, 6, 18]) (
 .ret)))⟩
def L362_0 : PC :=
 sq (.reg [
 O 9 (.bin .lss (.t 8) (.t 7))] []) (
 sq (.cond (.t 9) (.skip)
 (.exit 0)) (
 sq (.block 1 (
 sq (.reg [
 O 10 (.iaddr K0 (.t 6) (.t 8)),
 O 11 (.load K0 (.t 10)),
 O 5 (.mov (.t 11))] [11, 10]) (
 sq (.reg [
 O 12 (.mov (.t 3)),
 O 13 (.mov (.t 5)),
 O 14 (.len true (.t 13)),
 O 15 (.call 2 386 [(.t 12), (.t 14), (.c (I 10))]),
 O 3 (.mov (.t 15))] [15, 14, 13, 12]) (
 sq (.reg [
 O 16 (.mov (.t 3)),
 O 17 (.bsl K0 (.i .u8 0) 1 [(0, (.c (.i .u8 58)))]),
 O 18 (.app K0 1 (.t 16) (.t 17)),
 O 3 (.mov (.t 18))] [18, 17, 16]) (
 .reg [
 O 19 (.mov (.t 3)),
 O 20 (.mov (.t 5)),
 O 21 (.app K0 1 (.t 19) (.t 20)),
 O 3 (.mov (.t 21))] [21, 5, 20, 19]))))) (
 .reg [
 O 22 (.bin .add (.t 8) (.c (I 1))),
 O 8 (.mov (.t 22))] [22])))
def F362 : PF := ⟨1, [.t 2],
 sq (.reg [
 O 2 (.mov (.c (.s [])))] [2]) (
 sq (.reg [
 O 3 (.mov (.c (.l K0 [] true)))] []) (
 sq (sq (.reg [
 O 6 (.mov (.t 0)),
 O 7 (.len false (.t 6)),
 O 8 (.mov (.c (I 0)))] [0]) (
 .block 0 (
 .loop [3, 6, 7, 8] L362_0))) (
 sq (.reg [
 O 23 (.mov (.t 3)),
 O 24 (.sb (.t 23)),
 O 2 (.mov (.t 24))] [24, 3, 23]) (
 .ret))))⟩
def F363 : PF := ⟨1, [.t 2],
 sq (.reg [
 O 2 (.mov (.c (.s [])))] [2]) (
 sq (.reg [
 O 3 (.mov (.t 0)),
 O 4 (.call 0 109 [(.t 3)]),
 O 2 (.mov (.t 4))] [4, 0, 3]) (
 .ret))⟩
def L374_0 : PC :=
 sq (.reg [
 O 9 (.bin .lss (.t 8) (.t 7))] []) (
 sq (.cond (.t 9) (.skip)
 (.exit 0)) (
 sq (.block 1 (
 sq (.reg [
 O 10 (.mov (.t 8)),
 O 5 (.mov (.t 10))] [10]) (
 .reg [
 O 11 (.mov (.t 0)),
 O 12 (.mov (.t 1)),
 O 13 (.mov (.t 5)),
 O 14 (.idxS (.t 12) (.t 13)),
 O 15 (.conv .u64 (.t 14)),
 O 16 (.bin .xor (.t 11) (.t 15)),
 O 17 (.bin .mul (.t 16) (.c (.i .u64 1099511628211))),
 O 0 (.mov (.t 17))] [17, 16, 15, 14, 5, 13, 12, 11]))) (
 .reg [
 O 18 (.bin .add (.t 8) (.c (I 1))),
 O 8 (.mov (.t 18))] [18])))
def F374 : PF := ⟨2, [.t 4],
 sq (.reg [
 O 4 (.mov (.c (.i .u64 0)))] [4]) (
 sq (sq (.reg [
 O 6 (.mov (.t 1)),
 O 7 (.len true (.t 6)),
 O 8 (.mov (.c (I 0)))] [6]) (
 .block 0 (
 .loop [0, 1, 7, 8] L374_0))) (
 sq (.reg [
 O 19 (.mov (.t 0)),
 O 4 (.mov (.t 19))] [0, 19]) (
 .ret)))⟩
def L375_0 : PC :=
 sq (.reg [
 O 7 (.bin .lss (.t 6) (.c (I 8)))] []) (
 sq (.cond (.t 7) (.skip)
 (.exit 0)) (
 sq (.block 1 (
 sq (.reg [
 O 8 (.mov (.t 6)),
 O 5 (.mov (.t 8))] [8]) (
 .reg [
 O 9 (.mov (.t 0)),
 O 10 (.mov (.t 1)),
 O 11 (.mov (.t 5)),
 O 12 (.bin .mul (.c (I 8)) (.t 11)),
 O 13 (.bin .shr (.t 10) (.t 12)),
 O 14 (.bin .and (.t 13) (.c (.i .u64 255))),
 O 15 (.bin .xor (.t 9) (.t 14)),
 O 16 (.bin .mul (.t 15) (.c (.i .u64 1099511628211))),
 O 0 (.mov (.t 16))] [16, 15, 14, 13, 12, 5, 11, 10, 9]))) (
 .reg [
 O 17 (.bin .add (.t 6) (.c (I 1))),
 O 6 (.mov (.t 17))] [17])))
def F375 : PF := ⟨2, [.t 4],
 sq (.reg [
 O 4 (.mov (.c (.i .u64 0)))] [4]) (
 sq (sq (.reg [
 O 6 (.mov (.c (I 0)))] []) (
 .block 0 (
 .loop [0, 1, 6] L375_0))) (
 sq (.reg [
 O 18 (.mov (.t 0)),
 O 4 (.mov (.t 18))] [0, 18]) (
 .ret)))⟩
def L376_0 : PC :=
 sq (.reg [
 O 9 (.bin .lss (.t 8) (.t 7))] []) (
 sq (.cond (.t 9) (.skip)
 (.exit 0)) (
 sq (.block 1 (
 sq (.reg [
 O 10 (.mov (.t 8)),
 O 5 (.mov (.t 10))] [10]) (
 sq (.reg [
 O 11 (.mov (.t 1)),
 O 12 (.mov (.t 0)),
 O 13 (.mov (.t 5)),
 O 14 (.iaddr (K1 4) (.t 12) (.t 13)),
 O 15 (.load (K1 4) (.t 14)),
 O 16 (.callv (.t 11) [(.t 15)])] [15, 14, 13, 12, 11]) (
 .cond (.t 16) (sq (.reg [
 O 17 (.mov (.t 5)),
 O 4 (.mov (.t 17))] [5, 17]) (
 .ret))
 (.skip))))) (
 .reg [
 O 18 (.bin .add (.t 8) (.c (I 1))),
 O 8 (.mov (.t 18))] [18])))
def F376 : PF := ⟨2, [.t 4],
 sq (.reg [
 O 4 (.mov (.c (I 0)))] [4]) (
 sq (sq (.reg [
 O 6 (.mov (.t 0)),
 O 7 (.len false (.t 6)),
 O 8 (.mov (.c (I 0)))] [6]) (
 .block 0 (
 .loop [0, 1, 7, 8] L376_0))) (
 sq (.reg [
 O 4 (.mov (.c (I (-1))))] []) (
 .ret)))⟩
def F495 : PF := ⟨2, [.c 4 (K1 10), .t 5],
 sq (.reg [
 O 3 (.box K0 (.t 1)),
 O 4 (.alloc (K1 10) (.a [(I 0), (I 0), (I 0), (I 0), (I 0), (I 0), (.s []), (.s []), (.l (K1 3) [] true), (.i .u64 0)])),
 O 5 (.mov (.c (.b false)))] [5, 1]) (
 sq (.reg [
 O 7 (.mov (.t 0)),
 O 8 (.mkf 522 [(.t 3)]),
 O 9 (.call 2 244 [(.t 7), (.t 8)]),
 O 6 (.mov (.t 9))] [9, 3, 8, 7]) (
 sq (sq (.reg [
 O 10 (.mov (.t 6)),
 O 11 (.bin .lss (.t 10) (.c (I 0)))] [10]) (
 .cond (.t 11) (sq (.reg [
 O 12 (.agg [(I 0), (I 0), (I 0), (I 0), (I 0), (I 0), (.s []), (.s []), (.l (K1 3) [] true), (.i .u64 0)] []),
 E (.store (K1 10) (.t 4) (.t 12)),
 O 5 (.mov (.c (.b false)))] [12]) (
 .ret))
 (.skip))) (
 sq (.reg [
 O 13 (.mov (.t 0)),
 O 14 (.mov (.t 6)),
 O 15 (.iaddr (K1 10) (.t 13) (.t 14)),
 O 16 (.load (K1 10) (.t 15)),
 E (.store (K1 10) (.t 4) (.t 16)),
 O 5 (.mov (.c (.b true)))] [16, 15, 6, 14, 0, 13]) (
 .ret))))⟩
def F522 : PF := ⟨2, [.t 3],
 sq (.reg [
 O 2 (.box (K1 10) (.t 0)),
 O 3 (.mov (.c (.b false)))] [3, 0]) (
 sq (.reg [
 O 4 (.faddr 6 (.t 2)),
 O 5 (.load K0 (.t 4)),
 O 6 (.load K0 (.t 1)),
 O 7 (.bin .eql (.t 5) (.t 6)),
 O 3 (.mov (.t 7))] [7, 1, 6, 5, 2, 4]) (
 .ret))⟩
def F594 : PF := ⟨2, [.c 4 (K1 22), .c 5 K0],
 sq (.reg [
 O 2 (.box (K1 22) (.t 0)),
 O 3 (.box (K1 10) (.t 1)),
 O 4 (.alloc (K1 22) (.a [(.l (K1 2) [] true), (.l (K1 3) [] true), (.l (K1 4) [] true), (I 0), (I 0), (I 0), (I 0), (I 0), (I 0), (I 0), (I 0), (I 0), (I 0), (I 0), (I 0), (I 0), (I 0), (.l (K1 19) [] true), (.l (K1 7) [] true), (.l (K1 10) [] true), (.l (K1 6) [] true), (.l (K1 7) [] true)])),
 O 5 (.alloc K0 (I 0))] [1, 0]) (
 sq (.reg [
 O 8 (.mkf 673 [(.t 5), (.t 4), (.t 2)]),
 O 100000 (.dfr (.t 8) (.t 100000))] [100000, 8]) (
 sq (sq (.reg [
 O 9 (.load (K1 10) (.t 3)),
 O 10 (.call 0 111 [(.t 9)]),
 E (.store K0 (.t 5) (.t 10))] [10, 9]) (
 sq (.reg [
 O 11 (.load K0 (.t 5)),
 O 12 (.bin .neq (.t 11) (.c (I 0)))] [11]) (
 .cond (.t 12) (.ret)
 (.skip)))) (
 sq (sq (.reg [
 O 14 (.faddr 19 (.t 2)),
 O 15 (.load K0 (.t 14)),
 O 16 (.faddr 6 (.t 3)),
 O 17 (.load K0 (.t 16)),
 O 18 (.call 0 495 [(.t 15), (.t 17)]),
 O 13 (.mov (.t 18)),
 O 19 (.ext (.t 13) 0),
 O 20 (.ext (.t 13) 1),
 O 6 (.alloc (K1 10) (.a [(I 0), (I 0), (I 0), (I 0), (I 0), (I 0), (.s []), (.s []), (.l (K1 3) [] true), (.i .u64 0)])),
 E (.store (K1 10) (.t 6) (.t 19)),
 O 7 (.mov (.t 20))] [6, 20, 19, 13, 18, 17, 16, 15, 14]) (
 sq (.reg [
 O 21 (.mov (.t 7))] [7]) (
 .cond (.t 21) (sq (.reg [
 O 22 (.load (K1 22) (.t 4)),
 E (.store (K1 22) (.t 4) (.t 22)),
 E (.store K0 (.t 5) (.c (I 12)))] [22]) (
 .ret))
 (.skip)))) (
 sq (sq (.reg [
 O 23 (.load (K1 22) (.t 2)),
 O 24 (.load (K1 10) (.t 3)),
 O 25 (.call 0 168 [(.t 23), (.t 24)]),
 E (.store K0 (.t 5) (.t 25))] [25, 24, 23]) (
 sq (.reg [
 O 26 (.load K0 (.t 5)),
 O 27 (.bin .neq (.t 26) (.c (I 0)))] [26]) (
 .cond (.t 27) (.ret)
 (.skip)))) (
 sq (sq (.reg [
 O 28 (.load (K1 22) (.t 2)),
 O 29 (.load (K1 10) (.t 3)),
 O 30 (.call 0 674 [(.t 28), (.t 29)]),
 E (.store K0 (.t 5) (.t 30))] [30, 29, 28]) (
 sq (.reg [
 O 31 (.load K0 (.t 5)),
 O 32 (.bin .neq (.t 31) (.c (I 0)))] [31]) (
 .cond (.t 32) (.ret)
 (.skip)))) (
 sq (.reg [
 O 33 (.load (K1 22) (.t 2)),
 E (.store (K1 22) (.t 4) (.t 33))] [33]) (
 sq (.reg [
 O 35 (.faddr 19 (.t 2)),
 O 36 (.load K0 (.t 35)),
 O 37 (.load (K1 10) (.t 3)),
 O 38 (.call 0 675 [(.t 36), (.t 37)]),
 O 34 (.mov (.t 38)),
 O 39 (.ext (.t 34) 0),
 O 40 (.ext (.t 34) 1),
 O 41 (.faddr 19 (.t 4)),
 E (.store K0 (.t 41) (.t 39)),
 E (.store K0 (.t 5) (.t 40))] [41, 40, 39, 34, 38, 3, 37, 36, 2, 35]) (
 .ret))))))))⟩
def F673 : PF := ⟨3, [],
 sq (.reg [
 O 3 (.load K0 (.t 0)),
 O 4 (.bin .neq (.t 3) (.c (I 0))),
 O 5 (.mov (.t 4)),
 OG 6 5 false (.faddr 19 (.t 1)),
 OG 7 5 false (.load K0 (.t 6)),
 OG 8 5 false (.len false (.t 7)),
 OG 9 5 false (.faddr 19 (.t 2)),
 OG 10 5 false (.load K0 (.t 9)),
 OG 11 5 false (.len false (.t 10)),
 OG 12 5 false (.bin .add (.t 11) (.c (I 1))),
 OG 13 5 false (.bin .neq (.t 8) (.t 12)),
 O 14 (.pick (.t 5) (.c (.b true)) (.t 13))] [13, 12, 11, 10, 2, 9, 8, 7, 6, 5, 4, 0, 3]) (
 .cond (.t 14) (.reg [
 O 15 (.agg [(.l (K1 2) [] true), (.l (K1 3) [] true), (.l (K1 4) [] true), (I 0), (I 0), (I 0), (I 0), (I 0), (I 0), (I 0), (I 0), (I 0), (I 0), (I 0), (I 0), (I 0), (I 0), (.l (K1 19) [] true), (.l (K1 7) [] true), (.l (K1 10) [] true), (.l (K1 6) [] true), (.l (K1 7) [] true)] []),
 E (.store (K1 22) (.t 1) (.t 15))] [1, 15])
 (.skip))⟩
def F675 : PF := ⟨2, [.t 4, .t 5],
 sq (.reg [
 O 3 (.box (K1 10) (.t 1)),
 O 4 (.mov (.c (.l (K1 10) [] true))),
 O 5 (.mov (.c (I 0)))] [5, 4, 1]) (
 sq (sq (.reg [
 O 12 (.load (K1 10) (.t 3)),
 O 13 (.call 0 111 [(.t 12)]),
 O 6 (.mov (.t 13))] [13, 12]) (
 sq (.reg [
 O 14 (.mov (.t 6)),
 O 15 (.bin .neq (.t 14) (.c (I 0)))] [14]) (
 .cond (.t 15) (sq (.reg [
 O 16 (.mov (.t 6)),
 O 4 (.mov (.c (.l (K1 10) [] true))),
 O 5 (.mov (.t 16))] [6, 16]) (
 .ret))
 (.skip)))) (
 sq (sq (.reg [
 O 18 (.mov (.t 0)),
 O 19 (.faddr 6 (.t 3)),
 O 20 (.load K0 (.t 19)),
 O 21 (.call 0 495 [(.t 18), (.t 20)]),
 O 17 (.mov (.t 21)),
 O 22 (.ext (.t 17) 0),
 O 23 (.ext (.t 17) 1),
 O 7 (.alloc (K1 10) (.a [(I 0), (I 0), (I 0), (I 0), (I 0), (I 0), (.s []), (.s []), (.l (K1 3) [] true), (.i .u64 0)])),
 E (.store (K1 10) (.t 7) (.t 22)),
 O 8 (.mov (.t 23))] [7, 23, 22, 17, 21, 20, 19, 18]) (
 sq (.reg [
 O 24 (.mov (.t 8))] [8]) (
 .cond (.t 24) (sq (.reg [
 O 4 (.mov (.c (.l (K1 10) [] true))),
 O 5 (.mov (.c (I 12)))] []) (
 .ret))
 (.skip)))) (
 sq (.reg [
 O 26 (.mov (.t 0)),
 O 27 (.call 0 242 [(.t 26)]),
 O 25 (.mov (.t 27)),
 O 28 (.ext (.t 25) 0),
 O 29 (.ext (.t 25) 1),
 O 9 (.mov (.t 28)),
 O 10 (.mov (.t 29))] [29, 28, 25, 27, 26]) (
 sq (sq (.reg [
 O 30 (.mov (.t 0)),
 O 31 (.len false (.t 30)),
 O 32 (.bin .gtr (.t 31) (.c (I 0))),
 O 33 (.mov (.t 32)),
 OG 34 33 true (.faddr 1 (.t 3)),
 OG 35 33 true (.load K0 (.t 34)),
 OG 36 33 true (.mov (.t 10)),
 OG 37 33 true (.bin .lss (.t 35) (.t 36)),
 O 38 (.pick (.t 33) (.t 37) (.c (.b false)))] [37, 10, 36, 35, 34, 33, 32, 31, 30]) (
 .cond (.t 38) (sq (.reg [
 O 4 (.mov (.c (.l (K1 10) [] true))),
 O 5 (.mov (.c (I 10)))] []) (
 .ret))
 (.skip))) (
 sq (sq (.reg [
 O 39 (.mov (.t 0)),
 O 40 (.len false (.t 39)),
 O 41 (.bin .geq (.t 40) (.c (I 4096)))] [40, 39]) (
 .cond (.t 41) (sq (.reg [
 O 4 (.mov (.c (.l (K1 10) [] true))),
 O 5 (.mov (.c (I 5)))] []) (
 .ret))
 (.skip))) (
 sq (.reg [
 O 42 (.mov (.t 0)),
 O 43 (.len false (.t 42)),
 O 44 (.bin .add (.t 43) (.c (I 1))),
 O 45 (.mksl (K1 10) 112 (.a [(I 0), (I 0), (I 0), (I 0), (I 0), (I 0), (.s []), (.s []), (.l (K1 3) [] true), (.i .u64 0)]) (.t 44) (.t 44)),
 O 11 (.mov (.t 45))] [45, 44, 43, 42]) (
 sq (.reg [
 O 46 (.mov (.t 11)),
 O 47 (.mov (.t 0)),
 O 48 (.copy (K1 10) (.t 46) (.t 47))] [48, 47, 46]) (
 sq (.reg [
 O 49 (.mov (.t 11)),
 O 50 (.mov (.t 0)),
 O 51 (.len false (.t 50)),
 O 52 (.load (K1 10) (.t 3)),
 O 53 (.mov (.t 0)),
 O 54 (.len false (.t 53)),
 O 55 (.mov (.t 9)),
 O 56 (.call 0 243 [(.t 52), (.t 54), (.t 55)]),
 O 57 (.iaddr (K1 10) (.t 49) (.t 51)),
 E (.store (K1 10) (.t 57) (.t 56))] [57, 56, 9, 55, 54, 53, 3, 52, 51, 0, 50, 49]) (
 sq (.reg [
 O 58 (.mov (.t 11)),
 O 4 (.mov (.t 58)),
 O 5 (.mov (.c (I 0)))] [11, 58]) (
 .ret))))))))))⟩
def F788 : PF := ⟨5, [.c 10 (K1 22), .t 11, .t 12],
 sq (.reg [
 O 5 (.box (K1 22) (.t 0)),
 O 7 (.box K0 (.t 2)),
 O 9 (.box K0 (.t 4)),
 O 10 (.alloc (K1 22) (.a [(.l (K1 2) [] true), (.l (K1 3) [] true), (.l (K1 4) [] true), (I 0), (I 0), (I 0), (I 0), (I 0), (I 0), (I 0), (I 0), (I 0), (I 0), (I 0), (I 0), (I 0), (I 0), (.l (K1 19) [] true), (.l (K1 7) [] true), (.l (K1 10) [] true), (.l (K1 6) [] true), (.l (K1 7) [] true)])),
 O 11 (.mov (.c (.l (K1 11) [] true))),
 O 12 (.mov (.c (I 0)))] [12, 11, 4, 2, 0]) (
 sq (.reg [
 O 19 (.load (K1 22) (.t 5)),
 O 20 (.load K0 (.t 7)),
 O 21 (.call 0 12 [(.t 19), (.t 20)]),
 O 18 (.mov (.t 21)),
 O 22 (.ext (.t 18) 0),
 O 23 (.ext (.t 18) 1),
 O 13 (.alloc (K1 7) (.a [(I 0), (I 0), (I 0), (I 0), (.s []), (.s []), (.s [])])),
 E (.store (K1 7) (.t 13) (.t 22)),
 O 14 (.mov (.t 23))] [23, 22, 18, 21, 20, 19]) (
 sq (sq (.reg [
 O 24 (.mov (.t 14)),
 O 25 (.un .not (.t 24))] [14, 24]) (
 .cond (.t 25) (sq (.reg [
 O 26 (.agg [(.l (K1 2) [] true), (.l (K1 3) [] true), (.l (K1 4) [] true), (I 0), (I 0), (I 0), (I 0), (I 0), (I 0), (I 0), (I 0), (I 0), (I 0), (I 0), (I 0), (I 0), (I 0), (.l (K1 19) [] true), (.l (K1 7) [] true), (.l (K1 10) [] true), (.l (K1 6) [] true), (.l (K1 7) [] true)] []),
 E (.store (K1 22) (.t 10) (.t 26)),
 O 11 (.mov (.c (.l (K1 11) [] true))),
 O 12 (.mov (.c (I 11)))] [26]) (
 .ret))
 (.skip))) (
 sq (.reg [
 O 27 (.mov (.t 1)),
 O 28 (.load (K1 7) (.t 13)),
 O 29 (.call 0 21 [(.t 27), (.t 28)]),
 O 15 (.mov (.t 29))] [29, 13, 28, 27]) (
 sq (sq (.reg [
 O 30 (.mov (.t 3)),
 O 31 (.call 0 22 [(.t 30)]),
 O 32 (.un .not (.t 31)),
 O 33 (.mov (.t 32)),
 OG 34 33 false (.load K0 (.t 9)),
 OG 35 33 false (.call 0 22 [(.t 34)]),
 OG 36 33 false (.un .not (.t 35)),
 O 37 (.pick (.t 33) (.c (.b true)) (.t 36)),
 O 38 (.mov (.t 37)),
 OG 39 38 false (.mov (.t 15)),
 OG 40 38 false (.call 0 22 [(.t 39)]),
 OG 41 38 false (.un .not (.t 40)),
 OG 42 38 false (.mov (.t 41)),
 OG 43 42 true (.mov (.t 15)),
 OG 44 42 true (.bin .neq (.t 43) (.c (I 73049))),
 OG 45 38 false (.pick (.t 42) (.t 44) (.c (.b false))),
 O 46 (.pick (.t 38) (.c (.b true)) (.t 45))] [45, 44, 43, 42, 41, 40, 39, 38, 37, 36, 35, 34, 33, 32, 31, 30]) (
 .cond (.t 46) (sq (.reg [
 O 47 (.agg [(.l (K1 2) [] true), (.l (K1 3) [] true), (.l (K1 4) [] true), (I 0), (I 0), (I 0), (I 0), (I 0), (I 0), (I 0), (I 0), (I 0), (I 0), (I 0), (I 0), (I 0), (I 0), (.l (K1 19) [] true), (.l (K1 7) [] true), (.l (K1 10) [] true), (.l (K1 6) [] true), (.l (K1 7) [] true)] []),
 E (.store (K1 22) (.t 10) (.t 47)),
 O 11 (.mov (.c (.l (K1 11) [] true))),
 O 12 (.mov (.c (I 1)))] [47]) (
 .ret))
 (.skip))) (
 sq (.reg [
 O 48 (.mov (.t 1)),
 O 49 (.call 1 147 [(.t 48)]),
 O 16 (.alloc K0 (.l (K1 11) [] true)),
 E (.store K0 (.t 16) (.t 49))] [49, 1, 48]) (
 sq (sq (.reg [
 O 50 (.mov (.t 15)),
 O 51 (.mov (.t 3)),
 O 52 (.bin .gtr (.t 50) (.t 51))] [51, 50]) (
 .cond (.t 52) (sq (.regD [
 O 53 (.load (K1 22) (.t 5)),
 O 54 (.load K0 (.t 16)),
 E (.store (K1 22) (.t 10) (.t 53)),
 O 11 (.mov (.t 54)),
 O 12 (.mov (.c (I 0)))] [0, 0, 1, 7, 15] [16, 54, 5, 53]) (
 .ret))
 (.skip))) (
 sq (.reg [
 O 17 (.alloc K0 (I 0)),
 E (.store K0 (.t 17) (.c (I 0)))] []) (
 sq (.reg [
 O 55 (.mov (.t 15)),
 O 56 (.mov (.t 3)),
 O 57 (.mkf 867 [(.t 5), (.t 7), (.t 16), (.t 9), (.t 17)]),
 O 58 (.call 2 866 [(.t 55), (.t 56), (.t 57)])] [58, 9, 7, 57, 3, 56, 15, 55]) (
 sq (sq (.reg [
 O 59 (.load K0 (.t 17)),
 O 60 (.bin .neq (.t 59) (.c (I 0)))] [59]) (
 .cond (.t 60) (sq (.regD [
 O 61 (.agg [(.l (K1 2) [] true), (.l (K1 3) [] true), (.l (K1 4) [] true), (I 0), (I 0), (I 0), (I 0), (I 0), (I 0), (I 0), (I 0), (I 0), (I 0), (I 0), (I 0), (I 0), (I 0), (.l (K1 19) [] true), (.l (K1 7) [] true), (.l (K1 10) [] true), (.l (K1 6) [] true), (.l (K1 7) [] true)] []),
 O 62 (.load K0 (.t 17)),
 E (.store (K1 22) (.t 10) (.t 61)),
 O 11 (.mov (.c (.l (K1 11) [] true))),
 O 12 (.mov (.t 62))] [0, 0, 1, 5, 15] [17, 62, 61]) (
 .ret))
 (.skip))) (
 sq (.regD [
 O 63 (.load (K1 22) (.t 5)),
 O 64 (.load K0 (.t 16)),
 E (.store (K1 22) (.t 10) (.t 63)),
 O 11 (.mov (.t 64)),
 O 12 (.mov (.c (I 0)))] [0, 0, 1, 7, 15] [16, 64, 5, 63]) (
 .ret)))))))))))⟩
def F867 : PF := ⟨6, [.t 7],
 sq (.reg [
 O 7 (.mov (.c (.b false)))] [7]) (
 sq (.reg [
 O 12 (.load (K1 22) (.t 1)),
 O 13 (.load K0 (.t 2)),
 O 14 (.mov (.t 0)),
 O 15 (.call 0 24 [(.t 12), (.t 13), (.t 14)]),
 O 11 (.mov (.t 15)),
 O 16 (.ext (.t 11) 0),
 O 17 (.ext (.t 11) 1),
 O 8 (.alloc (K1 19) (.a [(.s []), (.s []), (.s []), (I 0), (I 0), (I 0), (I 0), (.l (K1 2) [] true), (.b false), (I 0), (I 0), (.b false), (.l (K1 2) [] true), (.b false), (I 0), (I 0), (.b false), (.l (K1 10) [] true), (.l (K1 6) [] true)])),
 E (.store (K1 19) (.t 8) (.t 16)),
 O 9 (.mov (.t 17))] [17, 16, 11, 15, 14, 13, 12]) (
 sq (sq (.reg [
 O 18 (.mov (.t 9)),
 O 19 (.un .not (.t 18)),
 O 20 (.mov (.t 19)),
 OG 21 20 false (.faddr 4 (.t 8)),
 OG 22 20 false (.load K0 (.t 21)),
 OG 23 20 false (.mov (.t 0)),
 OG 24 20 false (.call 0 868 [(.t 22), (.t 23)]),
 OG 25 20 false (.un .not (.t 24)),
 O 26 (.pick (.t 20) (.c (.b true)) (.t 25))] [25, 24, 23, 22, 8, 21, 20, 19, 9, 18]) (
 .cond (.t 26) (sq (.reg [
 O 7 (.mov (.c (.b true)))] []) (
 .ret))
 (.skip))) (
 sq (.reg [
 O 10 (.alloc (K1 11) (.a [(I 0), (I 0), (I 0), (I 0), (I 0), (I 0), (I 0), (I 0), (.i .u64 0), (I 0), (.i .u64 0)]))] []) (
 sq (sq (.reg [
 O 28 (.load (K1 22) (.t 1)),
 O 29 (.load K0 (.t 3)),
 O 30 (.load K0 (.t 2)),
 O 31 (.mov (.t 0)),
 O 32 (.load K0 (.t 4)),
 O 33 (.call 0 869 [(.t 28), (.t 29), (.t 30), (.t 31), (.t 32)]),
 O 27 (.mov (.t 33)),
 O 34 (.ext (.t 27) 0),
 O 35 (.ext (.t 27) 1),
 O 36 (.ext (.t 27) 2),
 E (.store (K1 22) (.t 1) (.t 34)),
 E (.store (K1 11) (.t 10) (.t 35)),
 E (.store K0 (.t 5) (.t 36))] [36, 35, 34, 27, 33, 4, 32, 0, 31, 2, 30, 29, 1, 28]) (
 sq (.reg [
 O 37 (.load K0 (.t 5)),
 O 38 (.bin .eql (.t 37) (.c (I 0)))] [37]) (
 .cond (.t 38) (.reg [
 O 39 (.load K0 (.t 3)),
 O 40 (.load (K1 11) (.t 10)),
 O 41 (.bsl (K1 11) (.a [(I 0), (I 0), (I 0), (I 0), (I 0), (I 0), (I 0), (I 0), (.i .u64 0), (I 0), (.i .u64 0)]) 1 [(0, (.t 40))]),
 O 42 (.app (K1 11) 88 (.t 39) (.t 41)),
 E (.store K0 (.t 3) (.t 42))] [42, 41, 10, 40, 3, 39])
 (.skip)))) (
 sq (.reg [
 O 43 (.load K0 (.t 5)),
 O 44 (.bin .eql (.t 43) (.c (I 0))),
 O 7 (.mov (.t 44))] [44, 5, 43]) (
 .ret))))))⟩
def F869 : PF := ⟨5, [.c 10 (K1 22), .c 11 (K1 11), .t 12],
 sq (.reg [
 O 5 (.box (K1 22) (.t 0)),
 O 10 (.alloc (K1 22) (.a [(.l (K1 2) [] true), (.l (K1 3) [] true), (.l (K1 4) [] true), (I 0), (I 0), (I 0), (I 0), (I 0), (I 0), (I 0), (I 0), (I 0), (I 0), (I 0), (I 0), (I 0), (I 0), (.l (K1 19) [] true), (.l (K1 7) [] true), (.l (K1 10) [] true), (.l (K1 6) [] true), (.l (K1 7) [] true)])),
 O 11 (.alloc (K1 11) (.a [(I 0), (I 0), (I 0), (I 0), (I 0), (I 0), (I 0), (I 0), (.i .u64 0), (I 0), (.i .u64 0)])),
 O 12 (.mov (.c (I 0)))] [12, 0]) (
 sq (.reg [
 O 18 (.load (K1 22) (.t 5)),
 O 19 (.mov (.t 1)),
 O 20 (.mov (.t 2)),
 O 21 (.mov (.t 3)),
 O 22 (.call 0 20 [(.t 18), (.t 19), (.t 20), (.t 21)]),
 O 17 (.mov (.t 22)),
 O 23 (.ext (.t 17) 0),
 O 24 (.ext (.t 17) 1),
 O 13 (.alloc (K1 11) (.a [(I 0), (I 0), (I 0), (I 0), (I 0), (I 0), (I 0), (I 0), (.i .u64 0), (I 0), (.i .u64 0)])),
 E (.store (K1 11) (.t 13) (.t 23)),
 O 14 (.mov (.t 24))] [24, 23, 17, 22, 3, 21, 2, 20, 1, 19, 18]) (
 sq (sq (.reg [
 O 25 (.mov (.t 14)),
 O 26 (.bin .neq (.t 25) (.c (I 0)))] [25]) (
 .cond (.t 26) (sq (.regD [
 O 27 (.load (K1 22) (.t 5)),
 O 28 (.load (K1 11) (.t 13)),
 O 29 (.mov (.t 14)),
 E (.store (K1 22) (.t 10) (.t 27)),
 E (.store (K1 11) (.t 11) (.t 28)),
 O 12 (.mov (.t 29))] [0, 0, 0, 1, 11, 31] [14, 29, 13, 28, 5, 27]) (
 .ret))
 (.skip))) (
 sq (sq (.reg [
 O 31 (.load (K1 22) (.t 5)),
 O 32 (.agg [(I 0), (I 0), (I 0), (I 0), (I 0), (I 0), (I 0), (I 0), (.i .u64 0), (I 0), (.i .u64 0)] []),
 O 33 (.load (K1 11) (.t 13)),
 O 34 (.mov (.t 4)),
 O 35 (.call 0 727 [(.t 31), (.t 32), (.t 33), (.t 34)]),
 O 30 (.mov (.t 35)),
 O 36 (.ext (.t 30) 0),
 O 37 (.ext (.t 30) 1),
 O 15 (.alloc (K1 10) (.a [(I 0), (I 0), (I 0), (I 0), (I 0), (I 0), (.s []), (.s []), (.l (K1 3) [] true), (.i .u64 0)])),
 E (.store (K1 10) (.t 15) (.t 36)),
 O 16 (.mov (.t 37))] [37, 36, 30, 35, 4, 34, 33, 32, 31]) (
 sq (.reg [
 O 38 (.mov (.t 16))] [16]) (
 .cond (.t 38) (sq (sq (.reg [
 O 40 (.load (K1 22) (.t 5)),
 O 41 (.load (K1 10) (.t 15)),
 O 42 (.call 0 594 [(.t 40), (.t 41)]),
 O 39 (.mov (.t 42)),
 O 43 (.ext (.t 39) 0),
 O 44 (.ext (.t 39) 1),
 E (.store (K1 22) (.t 5) (.t 43)),
 O 14 (.mov (.t 44))] [44, 43, 39, 42, 15, 41, 40]) (
 sq (.reg [
 O 45 (.mov (.t 14)),
 O 46 (.bin .neq (.t 45) (.c (I 0)))] [45]) (
 .cond (.t 46) (sq (.regD [
 O 47 (.load (K1 22) (.t 5)),
 O 48 (.load (K1 11) (.t 13)),
 O 49 (.mov (.t 14)),
 E (.store (K1 22) (.t 10) (.t 47)),
 E (.store (K1 11) (.t 11) (.t 48)),
 O 12 (.mov (.t 49))] [0, 0, 0, 1, 11, 31] [14, 49, 13, 48, 5, 47]) (
 .ret))
 (.skip)))) (
 .reg [
 O 50 (.faddr 6 (.t 13)),
 E (.store K0 (.t 50) (.c (I 1)))] [50]))
 (.skip)))) (
 sq (.regD [
 O 51 (.load (K1 22) (.t 5)),
 O 52 (.load (K1 11) (.t 13)),
 E (.store (K1 22) (.t 10) (.t 51)),
 E (.store (K1 11) (.t 11) (.t 52)),
 O 12 (.mov (.c (I 0)))] [0, 0, 1, 7, 15] [13, 52, 5, 51]) (
 .ret)))))⟩
def F1052 : PF := ⟨1, [.c 2 (K1 2)],
 sq (.reg [
 O 2 (.alloc (K1 2) (.a [(I 0), (.i .u64 0)]))] []) (
 sq (sq (.reg [
 O 3 (.mov (.t 0)),
 O 4 (.bin .lss (.t 3) (.c (I 0)))] [3]) (
 .cond (.t 4) (sq (.reg [
 O 5 (.mov (.t 0)),
 O 6 (.conv .u64 (.t 5)),
 O 7 (.agg [(I 0), (.i .u64 0)] [(0, K0, (.c (I (-1)))), (1, K0, (.t 6))]),
 E (.store (K1 2) (.t 2) (.t 7))] [7, 6, 0, 5]) (
 .ret))
 (.skip))) (
 sq (.reg [
 O 8 (.mov (.t 0)),
 O 9 (.conv .u64 (.t 8)),
 O 10 (.agg [(I 0), (.i .u64 0)] [(1, K0, (.t 9))]),
 E (.store (K1 2) (.t 2) (.t 10))] [10, 9, 0, 8]) (
 .ret)))⟩
def F1106 : PF := ⟨0, [.t 0],
 sq (.reg [
 O 0 (.mov (.c (.b false)))] [0]) (
 sq (.reg [
 O 11 (.call 0 1111 []),
 O 1 (.alloc (K1 22) (.a [(.l (K1 2) [] true), (.l (K1 3) [] true), (.l (K1 4) [] true), (I 0), (I 0), (I 0), (I 0), (I 0), (I 0), (I 0), (I 0), (I 0), (I 0), (I 0), (I 0), (I 0), (I 0), (.l (K1 19) [] true), (.l (K1 7) [] true), (.l (K1 10) [] true), (.l (K1 6) [] true), (.l (K1 7) [] true)])),
 E (.store (K1 22) (.t 1) (.t 11))] [11]) (
 sq (.reg [
 O 13 (.load (K1 22) (.t 1)),
 O 14 (.call 0 20 [(.t 13), (.c (.l (K1 11) [] true)), (.c (I 1000)), (.c (I 30))]),
 O 12 (.mov (.t 14)),
 O 15 (.ext (.t 12) 0),
 O 16 (.ext (.t 12) 1),
 O 2 (.alloc (K1 11) (.a [(I 0), (I 0), (I 0), (I 0), (I 0), (I 0), (I 0), (I 0), (.i .u64 0), (I 0), (.i .u64 0)])),
 E (.store (K1 11) (.t 2) (.t 15)),
 O 3 (.mov (.t 16))] [16, 15, 12, 14, 13]) (
 sq (.reg [
 O 18 (.load (K1 22) (.t 1)),
 O 19 (.agg [(I 0), (I 0), (I 0), (I 0), (I 0), (I 0), (I 0), (I 0), (.i .u64 0), (I 0), (.i .u64 0)] []),
 O 20 (.load (K1 11) (.t 2)),
 O 21 (.call 0 727 [(.t 18), (.t 19), (.t 20), (.c (I 31))]),
 O 17 (.mov (.t 21)),
 O 22 (.ext (.t 17) 0),
 O 23 (.ext (.t 17) 1),
 O 4 (.alloc (K1 10) (.a [(I 0), (I 0), (I 0), (I 0), (I 0), (I 0), (.s []), (.s []), (.l (K1 3) [] true), (.i .u64 0)])),
 E (.store (K1 10) (.t 4) (.t 22)),
 O 5 (.mov (.t 23))] [23, 22, 17, 21, 20, 19, 18]) (
 sq (.reg [
 O 25 (.load (K1 22) (.t 1)),
 O 26 (.call 0 788 [(.t 25), (.c (.l (K1 11) [] true)), (.c (I 1000)), (.c (I 30)), (.c (I 31))]),
 O 24 (.mov (.t 26)),
 O 27 (.ext (.t 24) 0),
 O 28 (.ext (.t 24) 1),
 O 29 (.ext (.t 24) 2),
 O 6 (.alloc (K1 22) (.a [(.l (K1 2) [] true), (.l (K1 3) [] true), (.l (K1 4) [] true), (I 0), (I 0), (I 0), (I 0), (I 0), (I 0), (I 0), (I 0), (I 0), (I 0), (I 0), (I 0), (I 0), (I 0), (.l (K1 19) [] true), (.l (K1 7) [] true), (.l (K1 10) [] true), (.l (K1 6) [] true), (.l (K1 7) [] true)])),
 E (.store (K1 22) (.t 6) (.t 27)),
 O 7 (.mov (.t 28)),
 O 8 (.mov (.t 29))] [29, 28, 27, 24, 26, 1, 25]) (
 sq (sq (.reg [
 O 30 (.mov (.t 3)),
 O 31 (.bin .neq (.t 30) (.c (I 0))),
 O 32 (.mov (.t 31)),
 OG 33 32 false (.mov (.t 5)),
 OG 34 32 false (.un .not (.t 33)),
 O 35 (.pick (.t 32) (.c (.b true)) (.t 34)),
 O 36 (.mov (.t 35)),
 OG 37 36 false (.mov (.t 8)),
 OG 38 36 false (.bin .neq (.t 37) (.c (I 0))),
 O 39 (.pick (.t 36) (.c (.b true)) (.t 38)),
 O 40 (.mov (.t 39)),
 OG 41 40 false (.mov (.t 7)),
 OG 42 40 false (.len false (.t 41)),
 OG 43 40 false (.bin .neq (.t 42) (.c (I 1))),
 O 44 (.pick (.t 40) (.c (.b true)) (.t 43)),
 O 45 (.mov (.t 44)),
 OG 46 45 false (.faddr 19 (.t 6)),
 OG 47 45 false (.load K0 (.t 46)),
 OG 48 45 false (.len false (.t 47)),
 OG 49 45 false (.bin .neq (.t 48) (.c (I 2))),
 O 50 (.pick (.t 45) (.c (.b true)) (.t 49)),
 O 51 (.mov (.t 50)),
 OG 52 51 false (.faddr 8 (.t 4)),
 OG 53 51 false (.load K0 (.t 52)),
 OG 54 51 false (.len false (.t 53)),
 OG 55 51 false (.bin .neq (.t 54) (.c (I 3))),
 O 56 (.pick (.t 51) (.c (.b true)) (.t 55))] [55, 54, 53, 52, 51, 50, 49, 48, 47, 6, 46, 45, 44, 43, 42, 41, 40, 39, 38, 8, 37, 36, 35, 34, 5, 33, 32, 31, 3, 30]) (
 .cond (.t 56) (sq (.reg [
 O 0 (.mov (.c (.b false)))] []) (
 .ret))
 (.skip))) (
 sq (.reg [
 O 58 (.mov (.t 7)),
 O 59 (.call 0 26 [(.t 58), (.c (I 1000))]),
 O 57 (.mov (.t 59)),
 O 60 (.ext (.t 57) 0),
 O 61 (.ext (.t 57) 1),
 O 9 (.alloc (K1 11) (.a [(I 0), (I 0), (I 0), (I 0), (I 0), (I 0), (I 0), (I 0), (.i .u64 0), (I 0), (.i .u64 0)])),
 E (.store (K1 11) (.t 9) (.t 60)),
 O 10 (.mov (.t 61))] [61, 60, 57, 59, 58]) (
 sq (.regD [
 O 62 (.faddr 3 (.t 2)),
 O 63 (.load K0 (.t 62)),
 O 64 (.bin .eql (.t 63) (.c (I 127))),
 O 65 (.mov (.t 64)),
 OG 66 65 true (.faddr 7 (.t 2)),
 OG 67 65 true (.load (K1 2) (.t 66)),
 OG 68 65 true (.call 0 1052 [(.c (I 636840000000))]),
 OG 69 65 true (.eqv false [1, 1] (.t 67) (.t 68)),
 O 70 (.pick (.t 65) (.t 69) (.c (.b false))),
 O 71 (.mov (.t 70)),
 OG 72 71 true (.faddr 5 (.t 2)),
 OG 73 71 true (.load K0 (.t 72)),
 OG 74 71 true (.bin .eql (.t 73) (.c (I 31))),
 O 75 (.pick (.t 71) (.t 74) (.c (.b false))),
 O 76 (.mov (.t 75)),
 OG 77 76 true (.faddr 1 (.t 2)),
 OG 78 76 true (.load K0 (.t 77)),
 OG 79 76 true (.bin .eql (.t 78) (.c (I 0))),
 O 80 (.pick (.t 76) (.t 79) (.c (.b false))),
 O 81 (.mov (.t 80)),
 OG 82 81 true (.faddr 6 (.t 4)),
 OG 83 81 true (.load K0 (.t 82)),
 OG 84 81 true (.bin .eql (.t 83) (.c (.s [105, 110, 116, 47, 49, 48, 48, 48, 47, 51, 48, 47, 48]))),
 O 85 (.pick (.t 81) (.t 84) (.c (.b false))),
 O 86 (.mov (.t 85)),
 OG 87 86 true (.faddr 2 (.t 4)),
 OG 88 86 true (.load K0 (.t 87)),
 OG 89 86 true (.bin .eql (.t 88) (.c (I 31))),
 O 90 (.pick (.t 86) (.t 89) (.c (.b false))),
 O 91 (.mov (.t 90)),
 OG 92 91 true (.faddr 8 (.t 4)),
 OG 93 91 true (.load K0 (.t 92)),
 OG 94 91 true (.iaddr (K1 3) (.t 93) (.c (I 2))),
 OG 95 91 true (.faddr 1 (.t 94)),
 OG 96 91 true (.load K0 (.t 95)),
 OG 97 91 true (.bin .eql (.t 96) (.c (I (-96)))),
 O 98 (.pick (.t 91) (.t 97) (.c (.b false))),
 O 99 (.mov (.t 98)),
 OG 100 99 true (.mov (.t 7)),
 OG 101 99 true (.iaddr (K1 11) (.t 100) (.c (I 0))),
 OG 102 99 true (.faddr 6 (.t 101)),
 OG 103 99 true (.load K0 (.t 102)),
 OG 104 99 true (.bin .eql (.t 103) (.c (I 1))),
 O 105 (.pick (.t 99) (.t 104) (.c (.b false))),
 O 106 (.mov (.t 105)),
 OG 107 106 true (.mov (.t 10)),
 O 108 (.pick (.t 106) (.t 107) (.c (.b false))),
 O 109 (.mov (.t 108)),
 OG 110 109 true (.load (K1 11) (.t 9)),
 OG 111 109 true (.mov (.t 7)),
 OG 112 109 true (.iaddr (K1 11) (.t 111) (.c (I 0))),
 OG 113 109 true (.load (K1 11) (.t 112)),
 OG 114 109 true (.eqv false [1, 1, 1, 1, 1, 1, 1, 1, 1, 1, 1] (.t 110) (.t 113)),
 O 115 (.pick (.t 109) (.t 114) (.c (.b false))),
 O 116 (.mov (.t 115)),
 OG 117 116 true (.call 0 1113 [(.c (I 3)), (.c (I 0)), (.c (I 200))]),
 OG 118 116 true (.bsl K0 (I 0) 2 [(0, (.c (I 90))), (1, (.c (I 181)))]),
 OG 119 116 true (.call 0 1112 [(.t 117), (.t 118)]),
 O 120 (.pick (.t 116) (.t 119) (.c (.b false))),
 O 0 (.mov (.t 120))] [0, 1, 3, 7, 15, 31, 15, 127, 255, 511, 1023, 2047, 4095, 8191, 16383, 32767, 65535, 131071, 262143, 524287, 1048575, 2097151, 4194303, 8388607, 16777215, 33554431, 67108863, 134217727, 268435455, 536870911, 1073741823, 2147483647, 4294967295, 8589934591, 17179869183, 34359738367, 68719476735, 137438953471, 274877906943, 549755813887, 1099511627775, 2199023255551, 4398046511103, 8796093022207, 17592186044415, 35184372088831, 70368744177663, 140737488355327, 281474976710655, 281474976710655, 844424930131967, 1970324836974591, 4503599627370495, 9007199254740991, 18014398509481983, 36028797018963967, 36028797018963967, 144115188075855871, 288230376151711743, 576460752303423487] [120, 119, 118, 117, 116, 115, 114, 113, 112, 111, 9, 110, 109, 108, 10, 107, 106, 105, 104, 103, 102, 101, 7, 100, 99, 98, 97, 96, 95, 94, 93, 92, 91, 90, 89, 88, 87, 86, 85, 84, 83, 4, 82, 81, 80, 79, 78, 77, 76, 75, 74, 73, 72, 71, 70, 69, 68, 67, 66, 65, 64, 63, 2, 62]) (
 .ret))))))))⟩
def F1111 : PF := ⟨0, [.c 0 (K1 22)],
 sq (.reg [
 O 0 (.alloc (K1 22) (.a [(.l (K1 2) [] true), (.l (K1 3) [] true), (.l (K1 4) [] true), (I 0), (I 0), (I 0), (I 0), (I 0), (I 0), (I 0), (I 0), (I 0), (I 0), (I 0), (I 0), (I 0), (I 0), (.l (K1 19) [] true), (.l (K1 7) [] true), (.l (K1 10) [] true), (.l (K1 6) [] true), (.l (K1 7) [] true)]))] []) (
 sq (.reg [
 O 2 (.agg [(.s []), (I 0)] [(0, K0, (.c (.s [69, 85, 82]))), (1, K0, (.c (I 2)))]),
 O 3 (.bsl (K1 2) (.a [(.s []), (I 0)]) 1 [(0, (.t 2))]),
 O 4 (.agg [(I 0), (I 0), (I 0), (I 0), (I 0), (I 0), (I 0), (I 0), (I 0), (I 0), (I 0), (I 0), (I 0), (I 0)] [(2, K0, (.c (I 5))), (3, K0, (.c (I 6))), (5, K0, (.c (I 7)))]),
 O 5 (.agg [(.l (K1 2) [] true), (.l (K1 3) [] true), (.l (K1 4) [] true), (I 0), (I 0), (I 0), (I 0), (I 0), (I 0), (I 0), (I 0), (I 0), (I 0), (I 0), (I 0), (I 0), (I 0), (.l (K1 19) [] true), (.l (K1 7) [] true), (.l (K1 10) [] true), (.l (K1 6) [] true), (.l (K1 7) [] true)] [(0, K0, (.t 3)), (3, (K1 14), (.t 4))]),
 O 1 (.alloc (K1 22) (.a [(.l (K1 2) [] true), (.l (K1 3) [] true), (.l (K1 4) [] true), (I 0), (I 0), (I 0), (I 0), (I 0), (I 0), (I 0), (I 0), (I 0), (I 0), (I 0), (I 0), (I 0), (I 0), (.l (K1 19) [] true), (.l (K1 7) [] true), (.l (K1 10) [] true), (.l (K1 6) [] true), (.l (K1 7) [] true)])),
 E (.store (K1 22) (.t 1) (.t 5))] [5, 4, 3, 2]) (
 sq (.reg [
 O 6 (.agg [(I 0), (I 0), (I 0), (.s [])] [(0, K0, (.c (I 1))), (2, K0, (.c (I 1))), (3, K0, (.c (.s [99, 97, 115, 104])))]),
 O 7 (.agg [(I 0), (I 0), (I 0), (.s [])] [(0, K0, (.c (I 5))), (2, K0, (.c (I 5))), (3, K0, (.c (.s [112, 97, 105, 100])))]),
 O 8 (.agg [(I 0), (I 0), (I 0), (.s [])] [(0, K0, (.c (I 6))), (2, K0, (.c (I 4))), (3, K0, (.c (.s [101, 97, 114, 110, 101, 100])))]),
 O 9 (.agg [(I 0), (I 0), (I 0), (.s [])] [(0, K0, (.c (I 7))), (2, K0, (.c (I 2))), (3, K0, (.c (.s [116, 97, 120])))]),
 O 10 (.bsl (K1 4) (.a [(I 0), (I 0), (I 0), (.s [])]) 4 [(0, (.t 6)), (1, (.t 7)), (2, (.t 8)), (3, (.t 9))]),
 O 11 (.faddr 2 (.t 1)),
 E (.store K0 (.t 11) (.t 10))] [11, 10, 9, 8, 7, 6]) (
 sq (.reg [
 O 12 (.agg [(I 0), (I 0)] [(1, K0, (.c (I 15000)))]),
 O 13 (.bsl (K1 2) (.a [(I 0), (I 0)]) 1 [(0, (.t 12))]),
 O 14 (.agg [(.l (K1 2) [] true), (.b false), (I 0), (I 0), (.b false)] [(0, K0, (.t 13)), (2, K0, (.c (I 2))), (3, K0, (.c (I 6))), (4, K0, (.c (.b true)))]),
 O 15 (.agg [(.l (K1 2) [] true), (.b false), (I 0), (I 0), (.b false)] [(2, K0, (.c (I 2))), (3, K0, (.c (I 6)))]),
 O 16 (.agg [(.s []), (.s []), (.s []), (I 0), (I 0), (I 0), (I 0), (.l (K1 2) [] true), (.b false), (I 0), (I 0), (.b false), (.l (K1 2) [] true), (.b false), (I 0), (I 0), (.b false), (.l (K1 10) [] true), (.l (K1 6) [] true)] [(0, K0, (.c (.s [115, 97, 118, 101]))), (1, K0, (.c (.s [69, 85, 82]))), (4, K0, (.c (I 1))), (6, K0, (.c (I 250000))), (7, (K1 5), (.t 14)), (12, (K1 5), (.t 15))]),
 O 17 (.bsl (K1 19) (.a [(.s []), (.s []), (.s []), (I 0), (I 0), (I 0), (I 0), (.l (K1 2) [] true), (.b false), (I 0), (I 0), (.b false), (.l (K1 2) [] true), (.b false), (I 0), (I 0), (.b false), (.l (K1 10) [] true), (.l (K1 6) [] true)]) 1 [(0, (.t 16))]),
 O 18 (.faddr 17 (.t 1)),
 E (.store K0 (.t 18) (.t 17))] [18, 17, 16, 15, 14, 13, 12]) (
 sq (.reg [
 O 19 (.agg [(I 0), (I 0), (I 0), (I 0), (.s []), (.s []), (.s [])] [(0, K0, (.c (I 1000))), (4, K0, (.c (.s [97]))), (5, K0, (.c (.s [115, 97, 118, 101]))), (6, K0, (.c (.s [67, 66, 48, 48, 48, 48, 49, 48, 48, 48, 51, 51])))]),
 O 20 (.bsl (K1 7) (.a [(I 0), (I 0), (I 0), (I 0), (.s []), (.s []), (.s [])]) 1 [(0, (.t 19))]),
 O 21 (.faddr 18 (.t 1)),
 E (.store K0 (.t 21) (.t 20))] [21, 20, 19]) (
 sq (.reg [
 O 22 (.agg [(I 0), (I 0), (.s [])] [(0, K0, (.c (I 1))), (1, K0, (.c (I 100000))), (2, K0, (.c (.s [69, 85, 82])))]),
 O 23 (.agg [(I 0), (I 0), (.s [])] [(0, K0, (.c (I 1000))), (1, K0, (.c (I (-100000)))), (2, K0, (.c (.s [69, 85, 82])))]),
 O 24 (.bsl (K1 3) (.a [(I 0), (I 0), (.s [])]) 2 [(0, (.t 22)), (1, (.t 23))]),
 O 25 (.agg [(I 0), (I 0), (I 0), (I 0), (I 0), (I 0), (.s []), (.s []), (.l (K1 3) [] true), (.i .u64 0)] [(0, K0, (.c (I 1))), (3, K0, (.c (I 1))), (6, K0, (.c (.s [97]))), (8, K0, (.t 24))]),
 O 26 (.bsl (K1 10) (.a [(I 0), (I 0), (I 0), (I 0), (I 0), (I 0), (.s []), (.s []), (.l (K1 3) [] true), (.i .u64 0)]) 1 [(0, (.t 25))]),
 O 27 (.faddr 19 (.t 1)),
 E (.store K0 (.t 27) (.t 26))] [27, 26, 25, 24, 23, 22]) (
 sq (.reg [
 O 28 (.load (K1 22) (.t 1)),
 E (.store (K1 22) (.t 0) (.t 28))] [1, 28]) (
 .ret)))))))⟩
end Go.Sim
end
section
namespace Go.Sim
def tabF : PT :=
 (.bin 183 F183 (.bin 46 F46 (.bin 31 F31 (.bin 23 F23 (.bin 19 F19 (.bin 16 F16 (.bin 12 F12 .nil .nil) (.bin 18 F18 .nil .nil)) (.bin 21 F21 (.bin 20 F20 .nil .nil) (.bin 22 F22 .nil .nil))) (.bin 27 F27 (.bin 25 F25 (.bin 24 F24 .nil .nil) (.bin 26 F26 .nil .nil)) (.bin 29 F29 (.bin 28 F28 .nil .nil) (.bin 30 F30 .nil .nil)))) (.bin 39 F39 (.bin 35 F35 (.bin 33 F33 (.bin 32 F32 .nil .nil) (.bin 34 F34 .nil .nil)) (.bin 37 F37 (.bin 36 F36 .nil .nil) (.bin 38 F38 .nil .nil))) (.bin 43 F43 (.bin 41 F41 (.bin 40 F40 .nil .nil) (.bin 42 F42 .nil .nil)) (.bin 45 F45 (.bin 44 F44 .nil .nil) .nil)))) (.bin 63 F63 (.bin 55 F55 (.bin 51 F51 (.bin 48 F48 (.bin 47 F47 .nil .nil) (.bin 50 F50 .nil .nil)) (.bin 53 F53 (.bin 52 F52 .nil .nil) (.bin 54 F54 .nil .nil))) (.bin 59 F59 (.bin 57 F57 (.bin 56 F56 .nil .nil) (.bin 58 F58 .nil .nil)) (.bin 62 F62 (.bin 61 F61 .nil .nil) .nil))) (.bin 110 F110 (.bin 68 F68 (.bin 65 F65 (.bin 64 F64 .nil .nil) (.bin 66 F66 .nil .nil)) (.bin 71 F71 (.bin 69 F69 .nil .nil) (.bin 72 F72 .nil .nil))) (.bin 180 F180 (.bin 168 F168 (.bin 111 F111 .nil .nil) (.bin 179 F179 .nil .nil)) (.bin 182 F182 (.bin 181 F181 .nil .nil) .nil))))) (.bin 382 F382 (.bin 318 F318 (.bin 246 F246 (.bin 242 F242 (.bin 185 F185 (.bin 184 F184 .nil .nil) (.bin 186 F186 .nil .nil)) (.bin 244 F244 (.bin 243 F243 .nil .nil) (.bin 245 F245 .nil .nil))) (.bin 266 F266 (.bin 263 F263 (.bin 262 F262 .nil .nil) (.bin 265 F265 .nil .nil)) (.bin 268 F268 (.bin 267 F267 .nil .nil) .nil))) (.bin 342 F342 (.bin 329 F329 (.bin 327 F327 (.bin 326 F326 .nil .nil) (.bin 328 F328 .nil .nil)) (.bin 331 F331 (.bin 330 F330 .nil .nil) (.bin 341 F341 .nil .nil))) (.bin 374 F374 (.bin 362 F362 (.bin 344 F344 .nil .nil) (.bin 363 F363 .nil .nil)) (.bin 376 F376 (.bin 375 F375 .nil .nil) .nil)))) (.bin 869 F869 (.bin 727 F727 (.bin 594 F594 (.bin 522 F522 (.bin 495 F495 .nil .nil) (.bin 544 F544 .nil .nil)) (.bin 674 F674 (.bin 673 F673 .nil .nil) (.bin 675 F675 .nil .nil))) (.bin 866 F866 (.bin 788 F788 (.bin 787 F787 .nil .nil) (.bin 806 F806 .nil .nil)) (.bin 868 F868 (.bin 867 F867 .nil .nil) .nil))) (.bin 1112 F1112 (.bin 1052 F1052 (.bin 1050 F1050 (.bin 1045 F1045 .nil .nil) (.bin 1051 F1051 .nil .nil)) (.bin 1106 F1106 (.bin 1060 F1060 .nil .nil) (.bin 1111 F1111 .nil .nil))) (.bin 1116 F1116 (.bin 1114 F1114 (.bin 1113 F1113 .nil .nil) (.bin 1115 F1115 .nil .nil)) (.bin 1118 F1118 (.bin 1117 F1117 .nil .nil) .nil))))))
def xsL : List (Nat × XK) := [(109, .itoa), (147, .clone (K1 11) 88), (60, .clone (K1 2) 16), (15, .clone (K1 3) 32)]
def rsL : List (Nat × RK) := [(264, .ins (K1 3) 32), (269, .ins (K1 2) 24), (386, .ai)]
def gsL : List (Nat × DV × K) := [(0, .a [.i .u64 1, .i .u64 10, .i .u64 100, .i .u64 1000, .i .u64 10000, .i .u64 100000, .i .u64 1000000, .i .u64 10000000, .i .u64 100000000, .i .u64 1000000000, .i .u64 10000000000, .i .u64 100000000000, .i .u64 1000000000000, .i .u64 10000000000000, .i .u64 100000000000000, .i .u64 1000000000000000, .i .u64 10000000000000000, .i .u64 100000000000000000, .i .u64 1000000000000000000, .i .u64 10000000000000000000], some 20), (1, .a [.i .i64 0, .i .i64 0, .i .i64 1, .i .i64 0, .i .i64 0, .i .i64 1, .i .i64 0, .i .i64 0, .i .i64 1, .i .i64 1], some 10)]
noncomputable def TA29E : Tab := mkTab tabF xsL rsL gsL
end Go.Sim
end
section
open Go.RowKit Go.WideShapes Go.Deep
namespace Go.Sim
inductive Ty where
 | b
 | i (k : IntKind)
 | s
 | e
 | l (k : K) (ts : List Ty)
mutual
inductive XL : DV → Prop
 | mk (es : List DV) (t : Bool) : es.length ≤ maxLen → (∀ e ∈ es, XE e) → XL (.l (some 4) es t)
inductive XE : DV → Prop
 | mk (o n : Int) (s : List UInt8) (a : DV) : (Lit.int .i64 o).wf = true → (Lit.int .i64 n).wf = true → s.length ≤ maxLen → XL a → XE (.a [.i .i64 o, .i .i64 n, .s s, a])
end
mutual
def Has : Ty → DV → Prop
 | .e, x => XL x
 | .b, x => ∃ c, x = .b c
 | .i k, x => ∃ n, x = .i k n ∧ (Lit.int k n).wf = true
 | .s, x => ∃ l, x = .s l ∧ l.length ≤ maxLen
 | .l k ts, x => ∃ es, x = .l k es false ∧ es.length ≤ maxLen ∧ ∀ e ∈ es, ∃ cs, mkD k cs = some e ∧ HasL ts cs
def HasL : List Ty → List DV → Prop
 | [], [] => True
 | t :: ts, x :: xs => Has t x ∧ HasL ts xs
 | _, _ => False
end
def tyFs (P : Program) (rec : TypeId → Option (List Ty)) : List Field → Nat → Nat → Option (List Ty)
 | [], off, n => if off = n then some [] else none
 | f :: fs, off, n => if f.offset ≠ off then none else (rec f.type).bind fun a => if a.length ≠ P.cellsOf f.type then none else (tyFs P rec fs (off + a.length) n).bind fun b => some (a ++ b)
def tyB (P : Program) (u : TypeId) : Option (List Ty) := match P.underlying u with
 | some .bool => some [.b]
 | some (.int k) => some [.i k]
 | some .string => some [.s]
 | _ => none
def isX4 : Option (List Ty) → Bool
 | some [.i .i64, .i .i64, .s, .e] => true
 | _ => false
def exprB (P : Program) (t : TypeId) : Bool := match P.underlying t with
 | some (.slice e) => decide (kq P e = some (some 4)) && (decide (P.cellsOf e = 4) && match P.underlying e with
  | some (.struct fs) => isX4 (tyFs P (fun u => if u = t then some [.e] else tyB P u) fs.toList 0 4)
  | _ => false)
 | _ => false
def tyOf (P : Program) : Nat → TypeId → Option (List Ty)
 | 0, _ => none
 | n + 1, t => match P.underlying t with
  | some .bool => some [.b]
  | some (.int k) => some [.i k]
  | some .string => some [.s]
  | some (.slice e) => if exprB P t = true then some [.e] else (kq P e).bind fun k => (tyOf P n e).bind fun ts => if ts.length = P.cellsOf e ∧ k.size = ts.length ∧ 0 < ts.length then some [.l k ts] else none
  | some (.struct fs) => tyFs P (tyOf P n) fs.toList 0 (P.cellsOf t)
  | some (.array m e) => (tyOf P n e).bind fun ts => if ts.length = P.cellsOf e ∧ P.cellsOf t = m * P.cellsOf e then some (List.replicate m ts).flatten else none
  | _ => none
def Live (w : World) : Stab := fun b o => ∃ v, w.cell? ⟨b, o, none⟩ = some v
theorem Live.swf (w : World) : Swf w (Live w) := fun _ _ h => h
def R1 (w : World) (t : Ty) (v : Value) : Prop := flat v ∧ ∃ x, Has t x ∧ RelD w (Live w) x v
def CR (w : World) : List Ty → List Value → Prop
 | [], [] => True
 | t :: ts, v :: vs => R1 w t v ∧ CR w ts vs
 | _, _ => False
theorem CR.append {w : World} : ∀ {ts : List Ty} {vs : List Value} {us : List Ty} {ws : List Value}, CR w ts vs → CR w us ws → CR w (ts ++ us) (vs ++ ws)
 | [], [], _, _, _, k => k
 | _ :: _, _ :: _, _, _, h, k => ⟨h.1, h.2.append k⟩
 | [], _ :: _, _, _, h, _ => h.elim
 | _ :: _, [], _, _, h, _ => h.elim
theorem CR.len {w : World} : ∀ {ts : List Ty} {vs : List Value}, CR w ts vs → ts.length = vs.length
 | [], [], _ => rfl
 | _ :: _, _ :: _, h => by simp [h.2.len]
 | [], _ :: _, h => h.elim
 | _ :: _, [], h => h.elim
theorem CR.flat {w : World} : ∀ {ts : List Ty} {vs : List Value}, CR w ts vs → ∀ v ∈ vs, flat v
 | [], [], _, v, hv => by cases hv
 | _ :: _, _ :: _, h, v, hv => by
  rcases List.mem_cons.1 hv with rfl | hv
  ·exact h.1.1
  ·exact h.2.flat v hv
 | [], _ :: _, h, _, _ => h.elim
 | _ :: _, [], h, _, _ => h.elim
theorem CR.data {w : World} : ∀ {ts : List Ty} {vs : List Value}, CR w ts vs → ∃ xs, HasL ts xs ∧ xs.length = vs.length ∧ ∀ j (h : j < xs.length) (h' : j < vs.length), RelD w (Live w) xs[j] vs[j]
 | [], [], _ => ⟨[], by simp [HasL], rfl, fun j h => by cases h⟩
 | _ :: _, _ :: _, h => by
  obtain ⟨xs, h1, h2, h3⟩ := h.2.data
  obtain ⟨-, x, h4, h5⟩ := h.1
  refine ⟨x :: xs, by rw [HasL]; exact ⟨h4, h1⟩, by simp [h2], ?_⟩
  intro j hj hj'
  cases j with
  | zero => exact h5
  | succ j => exact h3 j _ _
 | [], _ :: _, h => h.elim
 | _ :: _, [], h => h.elim
theorem CR.val {w : World} {ts : List Ty} {vs : List Value} (h : CR w ts vs) {k : K} (hk : k.size = ts.length) (c : Nat → Value) (hc : ∀ m (h : m < vs.length), c m = vs[m]) :
  ∃ xs e, mkD k xs = some e ∧ HasL ts xs ∧ RelD w (Live w) e (mkV k c) := by
 obtain ⟨xs, h1, h2, h3⟩ := h.data
 have hl := h.len
 cases k with
 | none =>
  simp only [K.size] at hk
  match xs, vs, h2 with
  | [x], [v], _ =>
   refine ⟨[x], x, rfl, h1, ?_⟩
   have := h3 0 (by simp) (by simp)
   simp only [mkV]
   rw [hc 0 (by simp)]
   exact this
  | [], [], _ => simp at hl; subst hl; simp at hk
  | _ :: _ :: _, vs, e => rw [← hl, ← hk] at e; simp at e
 | some n =>
  simp only [K.size] at hk
  have e : (List.range n).map c = vs := by
   apply List.ext_getElem
   ·simp; omega
   ·intro m hm hm'
    simp [hc m hm']
  refine ⟨xs, .a xs, by simp [mkD]; omega, h1, ?_⟩
  simp only [mkV, e]
  exact .a xs vs h2 h.flat h3
section
variable {H : Type} {enc : TypeId × Value → H} {P : Program} {w : World} {sp : Nat → Bool} {held : Bool}
theorem cr_struct {rec : TypeId → Option (List Ty)} {cs : List Value} {n : Nat} (hn : cs.length = n) : ∀ (fs : List Field) (off : Nat) (ts : List Ty), off ≤ n → tyFs P rec fs off n = some ts →
  (∀ f ∈ fs, ∀ ts', rec f.type = some ts' → CR w ts' ((cs.drop f.offset).take (P.cellsOf f.type))) → CR w ts (cs.drop off)
 | [], off, ts, ho, h, _ => by
  simp only [tyFs] at h
  split at h
  ·cases h
   rw [List.drop_eq_nil_iff.2 (by omega)]
   trivial
  ·cases h
 | f :: fs, off, ts, ho, h, hf => by
  simp only [tyFs] at h
  split at h
  ·cases h
  rename_i h1
  have h1 : f.offset = off := by simpa using h1
  obtain ⟨a, ha, h⟩ := Option.bind_eq_some_iff.1 h
  split at h
  ·cases h
  rename_i h2
  have h2 : a.length = P.cellsOf f.type := by simpa using h2
  obtain ⟨b, hb, h⟩ := Option.bind_eq_some_iff.1 h
  cases h
  have k1 := hf f (List.mem_cons_self ..) a ha
  have k1l := k1.len
  rw [h1, ← h2] at k1
  have hle : off + a.length ≤ n := by
   rw [List.length_take, List.length_drop, h1] at k1l; omega
  have k2 := cr_struct hn fs (off + a.length) b hle hb (fun g hg => hf g (List.mem_cons_of_mem _ hg))
  have := k1.append k2
  rwa [← List.drop_drop, List.take_append_drop] at this
theorem cr_array {cs : List Value} {c : Nat} {ts : List Ty} (ht : ts.length = c) : ∀ (m i : Nat), cs.length = (i + m) * c → (∀ j, i ≤ j → j < i + m → CR w ts ((cs.drop (j * c)).take c)) → CR w (List.replicate m ts).flatten (cs.drop (i * c))
 | 0, i, hl, _ => by
  rw [List.drop_eq_nil_iff.2 (by rw [hl]; simp)]
  trivial
 | m + 1, i, hl, h => by
  have k1 := h i (Nat.le_refl _) (by omega)
  have k2 := cr_array ht m (i + 1) (by rw [hl]; congr 1; omega) (fun j hj hj' => h j (by omega) (by omega))
  have := k1.append k2
  rw [Nat.succ_mul, ← List.drop_drop, List.take_append_drop] at this
  simpa [List.replicate_succ] using this
theorem cr_slice {t e : TypeId} {fuel : Nat} {cs : List Value} {x : DataW H × List MemPlace} {k : K} {c : Nat} {Pe : DV → Prop} (hu : P.underlying t = some (.slice e)) (hd : DataW.trod enc P w 0 sp held fuel t cs = some x) (hc1 : c = P.cellsOf e) (hc2 : k.size = c) (hc3 : 0 < c)
  (hel : ∀ n cs' x', n < fuel → DataW.trod enc P w 0 sp held n e cs' = some x' → ∃ us, us.length = c ∧ CR w us cs' ∧ ∀ xs ee, mkD k xs = some ee → HasL us xs → Pe ee) :
  ∃ v E, cs = [v] ∧ flat v ∧ RelD w (Live w) (.l k E false) v ∧ E.length ≤ maxLen ∧ ∀ e ∈ E, Pe e := by
 rcases DataW.trod_slice hu hd with ⟨rfl, -⟩ | ⟨a, len, cap, elems, rest, n, rfl, rfl, -, hb, hl, hm, hlen, hx, -, -⟩
 ·refine ⟨_, [], rfl, rfl, ?_, by simp, fun e he => by cases he⟩
  exact .l k [] false none 0 0 0 (fun _ _ => .bool false) (Nat.le_refl _) (fun h => by cases h) (fun h => by cases h) (fun j h => by cases h) (fun j h => by cases h)
 ·have hs : ∀ i, i < len → ∃ V : (Nat → Value) × DV, (∀ q, q < k.size → w.cell? (a.add (i * P.cellsOf e + q)) = some (V.1 q) ∧ flat (V.1 q)) ∧ Pe V.2 ∧ RelD w (Live w) V.2 (mkV k V.1) := by
   intro i hi
   have h0 := hx i hi
   rw [List.getElem?_eq_getElem (by omega)] at h0
   obtain ⟨cs', h1, h2⟩ := Option.bind_eq_some_iff.1 h0
   obtain ⟨us, hus, h3, hpe⟩ := hel n cs' _ (Nat.lt_succ_self n) h2
   obtain ⟨-, h4, h5⟩ := World.cells?_some h1
   obtain ⟨xs, ee, e1, e2, e3⟩ := h3.val (k := k) (by omega) (fun q => cs'.getD q (.bool false)) (fun q hq => by simp [hq])
   have hul := h3.len
   refine ⟨(fun q => cs'.getD q (.bool false), ee), ?_, hpe xs ee e1 e2, e3⟩
   intro q hq
   have hq' : q < cs'.length := by omega
   have h6 := h5 q (by omega)
   rw [List.getElem?_eq_getElem hq'] at h6
   have e7 : (cs'.getD q (.bool false)) = cs'[q] := by simp [hq']
   refine ⟨?_, ?_⟩
   ·rw [show (a.add (i * P.cellsOf e + q)) = (a.add (i * P.cellsOf e)).add q by by_cases g1 : i * P.cellsOf e = 0 <;> by_cases g2 : q = 0 <;> simp [Addr.add, g1, g2, Nat.add_assoc]]
    simp only [e7]; exact h6
   ·show flat (cs'.getD q (.bool false))
    rw [e7]; exact h3.flat _ (List.getElem_mem _)
  have : Inhabited ((Nat → Value) × DV) := ⟨(fun _ => .bool false, .np)⟩
  obtain ⟨V, hV⟩ := choose_lt hs
  obtain ⟨E, hE, hEV⟩ : ∃ E : List DV, E.length = len ∧ ∀ i (h : i < E.length), E[i] = (V i).2 := ⟨(List.range len).map fun i => (V i).2, by simp, fun i h => by simp⟩
  subst hE
  have hk0 : 0 < k.size := by omega
  have sp0 : ∀ j, j < E.length → a.spot = none := by
   intro j hj
   have := World.cell?_spot ((hV 0 (by omega)).1 0 hk0).1
   simpa [Addr.add] using this
  refine ⟨_, E, rfl, rfl, ?_, by omega, ?_⟩
  ·refine RelD.l (w := w) (S := Live w) k E false (some a) cap a.block a.off (fun j => (V j).1) hl (fun h => by cases h) ?_ ?_ ?_
   ·intro h0
    have := sp0 0 h0
    cases a; simp_all
   ·intro j hj q hq
    obtain ⟨g1, g2⟩ := (hV j hj).1 q hq
    have hs0 := sp0 j hj
    have e8 : a.add (j * P.cellsOf e + q) = ⟨a.block, a.off + j * k.size + q, none⟩ := by
     rw [← hc1, ← hc2]
     obtain ⟨ab, ao, as0⟩ := a
     simp only at hs0
     subst hs0
     by_cases g : j * k.size + q = 0 <;> simp [Addr.add, g, Nat.add_assoc]
     omega
    rw [e8] at g1
    exact ⟨g1, ⟨_, g1⟩, g2⟩
   ·intro j hj
    rw [hEV j hj]
    exact (hV j hj).2.2
  ·intro ee he
   obtain ⟨i, hi, rfl⟩ := List.getElem_of_mem he
   rw [hEV i hi]
   exact (hV i hi).2.1
theorem cr_base {u : TypeId} {fuel : Nat} {cs : List Value} {x : DataW H × List MemPlace} {ts : List Ty} (hd : DataW.trod enc P w 0 sp held fuel u cs = some x) (h : tyB P u = some ts) : CR w ts cs := by
 unfold tyB at h
 split at h
 ·rename_i hu
  cases h
  obtain ⟨b, rfl, -⟩ := DataW.trod_bool hu hd
  exact ⟨⟨rfl, .b b, by simp [Has], .b b⟩, trivial⟩
 ·rename_i k hu
  cases h
  obtain ⟨m, rfl, -, hw⟩ := DataW.trod_int hu hd
  exact ⟨⟨rfl, .i k m, by simp [Has, hw], .i k m⟩, trivial⟩
 ·rename_i hu
  cases h
  obtain ⟨s, rfl, -, hs⟩ := DataW.trod_string hu hd
  exact ⟨⟨rfl, .s s.data.toList, by simpa [Has] using hs, .s _ s rfl⟩, trivial⟩
 ·cases h
theorem xe_of {xs : List DV} {ee : DV} (h1 : mkD (some 4) xs = some ee) (h2 : HasL [.i .i64, .i .i64, .s, .e] xs) : XE ee := by
 match xs, h2 with
 | [x1, x2, x3, x4], h2 =>
  simp only [HasL, Has, and_true] at h2
  obtain ⟨⟨o, rfl, ho⟩, ⟨n, rfl, hn⟩, ⟨s, rfl, hs⟩, h4⟩ := h2
  simp only [mkD, List.length_cons, List.length_nil, if_true, Option.some.injEq] at h1
  subst h1
  exact .mk o n s x4 ho hn hs h4
 | [], h2 => simp [HasL] at h2
 | [_], h2 => simp [HasL] at h2
 | [_, _], h2 => simp [HasL] at h2
 | [_, _, _], h2 => simp [HasL] at h2
 | _ :: _ :: _ :: _ :: _ :: _, h2 => simp [HasL] at h2
theorem xl_of {t : TypeId} (ht : exprB P t = true) : ∀ (m fuel : Nat) (cs : List Value) (x : DataW H × List MemPlace), fuel ≤ m → DataW.trod enc P w 0 sp held fuel t cs = some x → CR w [.e] cs := by
 have ht0 := ht
 unfold exprB at ht
 split at ht
 case h_2 => cases ht
 rename_i e hu
 simp only [Bool.and_eq_true, decide_eq_true_eq] at ht
 obtain ⟨hk, hc, ht⟩ := ht
 split at ht
 case h_2 => cases ht
 rename_i fs hf
 obtain ⟨ts, hts, h4⟩ : ∃ ts, tyFs P (fun u => if u = t then some [.e] else tyB P u) fs.toList 0 4 = some ts ∧ ts = [.i .i64, .i .i64, .s, .e] := by
  unfold isX4 at ht
  split at ht
  ·rename_i hq; exact ⟨_, hq, rfl⟩
  ·cases ht
 subst h4
 intro m
 induction m with
 | zero =>
  intro fuel cs x hm hd
  obtain rfl : fuel = 0 := by omega
  simp [DataW.trod] at hd
 | succ m ih =>
  intro fuel cs x hm hd
  obtain ⟨v, E, rfl, hfl, hr, hlen, hE⟩ := cr_slice (k := some 4) (c := 4) (Pe := XE) hu hd hc.symm rfl (by decide) (fun n cs' x' hn hd' => by
   refine ⟨_, rfl, ?_, fun xs ee h1 h2 => xe_of h1 h2⟩
   obtain ⟨xs, n', rfl, -, hl, hl2, hx⟩ := DataW.trod_struct hf hd'
   have := cr_struct (P := P) (w := w) (rec := fun u => if u = t then some [.e] else tyB P u) (hl.trans hc) fs.toList 0 _ (Nat.zero_le _) hts (fun f hf' ts' hts' => by
    obtain ⟨i, hi, rfl⟩ := List.getElem_of_mem hf'
    have hi' : i < fs.size := by simpa using hi
    have h5 := hx i fs[i] (by simp [hi'])
    rw [List.getElem?_eq_getElem (by omega)] at h5
    simp only [Array.getElem_toList] at hts' ⊢
    split at hts'
    ·rename_i hft
     cases hts'
     rw [hft] at h5 ⊢
     exact ih n' _ _ (by omega) h5
    ·exact cr_base h5 hts')
   simpa using this)
  exact ⟨⟨hfl, _, by rw [Has]; exact .mk E false hlen hE, hr⟩, trivial⟩
theorem cr_of (n : Nat) : ∀ {fuel : Nat} {t : TypeId} {cs : List Value} {x : DataW H × List MemPlace} {ts : List Ty}, DataW.trod enc P w 0 sp held fuel t cs = some x → tyOf P n t = some ts → CR w ts cs := by
 induction n with
 | zero => intro fuel t cs x ts _ h; cases h
 | succ n ih =>
  intro fuel t cs x ts hd h
  simp only [tyOf] at h
  split at h
  ·rename_i hu
   cases h
   obtain ⟨b, rfl, -⟩ := DataW.trod_bool hu hd
   exact ⟨⟨rfl, .b b, by simp [Has], .b b⟩, trivial⟩
  ·rename_i k hu
   cases h
   obtain ⟨m, rfl, -, hw⟩ := DataW.trod_int hu hd
   exact ⟨⟨rfl, .i k m, by simp [Has, hw], .i k m⟩, trivial⟩
  ·rename_i hu
   cases h
   obtain ⟨s, rfl, -, hs⟩ := DataW.trod_string hu hd
   exact ⟨⟨rfl, .s s.data.toList, by simpa [Has] using hs, .s _ s rfl⟩, trivial⟩
  ·rename_i e hu
   split at h
   ·rename_i hX
    cases h
    exact xl_of hX fuel fuel cs x (Nat.le_refl _) hd
   obtain ⟨k, hk, h⟩ := Option.bind_eq_some_iff.1 h
   obtain ⟨us, hus, h⟩ := Option.bind_eq_some_iff.1 h
   split at h
   ·rename_i hc
    cases h
    obtain ⟨hc1, hc2, hc3⟩ := hc
    obtain ⟨v, E, rfl, hfl, hr, hlen, hE⟩ := cr_slice (k := k) (c := us.length) (Pe := fun ee => ∃ cs, mkD k cs = some ee ∧ HasL us cs) hu hd hc1 hc2 hc3 (fun n' cs' x' _ hd' => ⟨us, rfl, ih hd' hus, fun xs ee h1 h2 => ⟨xs, h1, h2⟩⟩)
    refine ⟨⟨hfl, _, ?_, hr⟩, trivial⟩
    rw [Has]
    exact ⟨E, rfl, hlen, hE⟩
   ·cases h
  ·rename_i fs hu
   obtain ⟨xs, m, -, -, hl, hl2, hx⟩ := DataW.trod_struct hu hd
   have := cr_struct (P := P) (w := w) (rec := tyOf P n) hl fs.toList 0 ts (Nat.zero_le _) h (fun f hf ts' hts => by
    obtain ⟨i, hi, rfl⟩ := List.getElem_of_mem hf
    have hi' : i < fs.size := by simpa using hi
    have := hx i fs[i] (by simp [hi'])
    rw [List.getElem?_eq_getElem (by omega)] at this
    simpa using ih this hts)
   simpa using this
  ·rename_i m e hu
   obtain ⟨us, hus, h⟩ := Option.bind_eq_some_iff.1 h
   split at h
   ·rename_i hc
    cases h
    obtain ⟨xs, m', -, -, hl, hl2, hx⟩ := DataW.trod_array hu hd
    have := cr_array (w := w) (cs := cs) hc.1 m 0 (by rw [hl, hc.2]; simp) (fun j _ hj => by
     have := hx j (by omega)
     rw [List.getElem?_eq_getElem (by omega)] at this
     exact ih this hus)
    simpa using this
   ·cases h
  ·cases h
end
end Go.Sim
end
section
open Go.RowKit
namespace Go.Sim
section
variable {P : Program} {W : World}
theorem laidVars_get {n : String} {d : DataW Unit} : ∀ {l : List (String × DataW Unit)} {ps : List MemPlace}, DataW.LaidVars P W l ps → (n, d) ∈ l →
  ∃ g t cs fuel p, P.globalNamed n = some g ∧ (P.globals[g]?).map (·.type) = some t ∧ W.var? P n = some cs ∧ DataW.trod (fun _ => ()) P W 0 (fun _ => true) false fuel t cs.toList = some (d, p) ∧ ∀ x ∈ MemPlace.row ⟨g, 0, none⟩ cs.size, x ∈ ps
 | [], _, _, h => by cases h
 | (m, e) :: r, ps, h, hm => by
  obtain ⟨g, t, cs, fuel, p, q, h1, h2, h3, h4, h5, rfl⟩ := h
  rcases List.mem_cons.1 hm with h | h
  ·cases h
   exact ⟨g, t, cs, fuel, p, h1, h2, h3, h4, fun x hx => List.mem_append_left _ (List.mem_append_left _ hx)⟩
  ·obtain ⟨g', t', cs', fuel', p', a1, a2, a3, a4, a5⟩ := laidVars_get h5 h
   exact ⟨g', t', cs', fuel', p', a1, a2, a3, a4, fun x hx => List.mem_append_right _ (a5 x hx)⟩
theorem laid_block {laid : List (String × DataW Unit)} (h : laidMet P laid W) {n : String} {d : DataW Unit} (hm : (n, d) ∈ laid) {g : Nat} (hg : P.globalNamed n = some g) {t : TypeId} (ht : (P.globals[g]?).map (·.type) = some t) :
  ∃ (cs : Array Value) (fuel : Nat) (p : List MemPlace), DataW.trod (fun _ => ()) P W 0 (fun _ => true) false fuel t cs.toList = some (d, p) ∧ (0 < cs.size → ∃ e, W.shape? g = some (e, cs.size)) ∧ ∀ j (hj : j < cs.size), W.cell? ⟨g, j, none⟩ = some cs[j] := by
 obtain ⟨ps, h1, -, h3⟩ := h
 obtain ⟨g', t', cs, fuel, p, a1, a2, a3, a4, a5⟩ := laidVars_get h1 hm
 obtain rfl := Option.some.inj (hg.symm.trans a1)
 obtain rfl := Option.some.inj (ht.symm.trans a2)
 have hheap : ∃ e fz, W.heap[g]? = some (.cells cs e fz) := by
  unfold World.var? at a3
  rw [hg] at a3
  simp only [Option.bind_some] at a3
  split at a3
  ·rename_i cs' e fz hw
   cases a3
   exact ⟨e, fz, hw⟩
  ·cases a3
 obtain ⟨e, fz, hw⟩ := hheap
 refine ⟨cs, fuel, p, a4, ?_, ?_⟩
 ·intro hp
  obtain ⟨⟨c, u, hc⟩, -⟩ := h3 g 0 (a5 _ (by unfold MemPlace.row; exact List.mem_map.2 ⟨0, List.mem_range.2 hp, rfl⟩))
  rw [hw] at hc
  cases hc
  exact ⟨e, by simp [World.shape?, hw]⟩
 ·intro j hj
  simp [World.cell?, hw, hj]
theorem gok_cells {S : Stab} (hS : S = Live W) {g : Nat} {zs : List (IntKind × Int)} (hz : 0 < zs.length) {cs : Array Value} (hl : cs.toList = zs.map fun z => Value.int z.1 z.2) (hs : 0 < cs.size → ∃ e, W.shape? g = some (e, cs.size)) (hc : ∀ j (hj : j < cs.size), W.cell? ⟨g, j, none⟩ = some cs[j]) :
  (∃ e, W.shape? g = some (e, zs.length)) ∧ ∃ f, At W S g 0 zs.length f ∧ RelD W S (.a (zs.map fun z => .i z.1 z.2)) (mkV (some zs.length) f) := by
 subst hS
 have hn : cs.size = zs.length := by rw [← Array.length_toList, hl, List.length_map]
 have hget : ∀ j (hj : j < zs.length), cs[j]'(by omega) = .int zs[j].1 zs[j].2 := fun j hj => by
  have h1 : cs.toList[j]'(by rw [Array.length_toList]; omega) = cs[j]'(by omega) := Array.getElem_toList _
  rw [← h1]
  simp only [hl, List.getElem_map]
 refine ⟨?_, fun j => cs.getD j (.bool false), ?_, ?_⟩
 ·obtain ⟨e, he⟩ := hs (by omega)
  exact ⟨e, by rw [he, hn]⟩
 ·intro j hj
  have h1 := hc j (by omega)
  have h2 : cs.getD j (.bool false) = cs[j]'(by omega) := by simp [Array.getD, show j < cs.size by omega]
  refine ⟨by rw [Nat.zero_add]; show _ = some (cs.getD j (.bool false)); rw [h2]; exact h1, ⟨_, by rw [Nat.zero_add]; exact h1⟩, ?_⟩
  show flat (cs.getD j (.bool false))
  rw [h2, hget j hj]; rfl
 ·simp only [mkV]
  refine RelD.a _ _ (by simp) ?_ ?_
  ·intro v hv
   obtain ⟨j, hj, rfl⟩ := List.mem_map.1 hv
   have hj := List.mem_range.1 hj
   have h2 : cs.getD j (.bool false) = cs[j]'(by omega) := by simp [Array.getD, show j < cs.size by omega]
   show flat (cs.getD j (.bool false))
   rw [h2, hget j hj]; rfl
  ·intro j hj hj'
   simp only [List.length_map] at hj
   simp only [List.getElem_map, List.getElem_range]
   have h2 : cs.getD j (.bool false) = cs[j]'(by omega) := by simp [Array.getD, show j < cs.size by omega]
   rw [h2, hget j hj]
   exact .i _ _
theorem gok_ints {laid : List (String × DataW Unit)} (h : laidMet P laid W) {n : String} {k : IntKind} {zs : List Int} (hm : (n, .agg (zs.map fun z => .lit (.int k z))) ∈ laid) {g : Nat} (hg : P.globalNamed n = some g) {t : TypeId} (ht : (P.globals[g]?).map (·.type) = some t)
  {m : Nat} {e : TypeId} (hu : P.underlying t = some (.array m e)) (he : P.underlying e = some (.int k)) (hc : P.cellsOf e = 1) (hct : P.cellsOf t = m) (hz : 0 < zs.length) :
  (∃ e, W.shape? g = some (e, zs.length)) ∧ ∃ f, At W (Live W) g 0 zs.length f ∧ RelD W (Live W) (.a (zs.map fun z => .i k z)) (mkV (some zs.length) f) := by
 obtain ⟨cs, fuel, p, h1, h2, h3⟩ := laid_block h hm hg ht
 obtain ⟨xs, m', rfl, hx, hl, hxl, hel⟩ := DataW.trod_array hu h1
 simp only [Prod.mk.injEq, DataW.agg.injEq] at hx
 have hzl : zs.length = m := by
  have := congrArg List.length hx.1
  simp only [List.length_map] at this
  omega
 have hcs : cs.toList = (zs.map fun z => (k, z)).map fun z => Value.int z.1 z.2 := by
  apply List.ext_getElem
  ·simp only [List.length_map]; rw [hl, hct, hzl]
  ·intro j hj hj'
   simp only [List.length_map] at hj'
   have hjm : j < m := by omega
   have h4 := hel j hjm
   rw [hc, Nat.mul_one, List.getElem?_eq_getElem (by omega)] at h4
   obtain ⟨n', e1, e2, -⟩ := DataW.trod_int he h4
   have e3 : cs.toList[j] = .int k n' := by
    have : (cs.toList.drop j).take 1 = [cs.toList[j]] := by
     rw [List.drop_eq_getElem_cons hj]; rfl
    rw [this] at e1
    exact (List.cons.inj e1).1
   rw [e3]
   have e4 : (xs.map (·.1))[j]'(by simp; omega) = .lit (.int k n') := by simp only [List.getElem_map]; rw [e2]
   have e5 : (zs.map fun z => (DataW.lit (.int k z) : DataW Unit))[j]'(by simp; omega) = .lit (.int k n') := by
    rw [← e4]; congr 1; exact hx.1
   simp only [List.getElem_map] at e5
   have e6 : zs[j] = n' := by simpa using e5
   simp only [List.getElem_map]
   rw [e6]
 have := gok_cells (W := W) rfl (g := g) (zs := zs.map fun z => (k, z)) (by simpa using hz) hcs h2 h3
 simpa only [List.length_map, List.map_map, Function.comp_def] using this
noncomputable def gnum (gl : List (Nat × Nat)) (g : Nat) : Nat := look (fun x => x) (g + 100) gl g
theorem gok_of {f : FuncId → Option (Nat × Nat)} {gl : List (Nat × Nat)} {gs : List (Nat × DV × K)} {S : Stab} (hlow : (gs.all fun x => Nat.blt x.1 100) = true)
  (h : ∀ x ∈ gl, ∀ v k, look some none gs x.2 = some (v, k) → (∃ e, W.shape? x.1 = some (e, k.size)) ∧ ∃ c, At W S x.1 0 k.size c ∧ RelD W S v (mkV k c)) : GOK ⟨f, gnum gl⟩ (look some none gs) W S := by
 intro g v k hg
 change look some none gs (gnum gl g) = _ at hg
 unfold gnum at hg
 rcases look_mem (f := fun x => x) (z := g + 100) (l := gl) (n := g) with h1 | ⟨x, h1, h2⟩
 ·exfalso
  rw [h1] at hg
  rcases look_mem (f := some) (z := none) (l := gs) (n := g + 100) with h3 | ⟨y, h3, -⟩
  ·rw [h3] at hg; cases hg
  ·have := List.all_eq_true.1 hlow _ h3
   have := Nat.le_of_ble_eq_true this
   omega
 ·rw [h2] at hg
  exact h (g, x) h1 v k hg
end
end Go.Sim
end
