/- Part 8 of the proof: CbC25, CbC25E, CbC25N, CbC29S, CbC51P, CbC51L, CbSimG, CbSimLd, CbDg. -/
import Derived.Test.YtehcjdaedhmkdaaGreatDoorB2
import Derived.Test.YtehcjdaedhmkdaaGreatDoorB6
import Derived.Test.YtehcjdaedhmkdaaGreatDoorB5
import Derived.ChangeArms
import Derived.OpenShut
import Derived.Deep.Slices
import Derived.WideShapes
import Derived.ProofKit
import Derived.LaidMore
section
namespace Go.Sim
end Go.Sim
end
section
namespace Go.Sim
def F544 : PF := ⟨1, [.t 2],
 sq (.reg [
 O 2 (.mov (.c (.b false)))] [2]) (
 sq (.reg [
 O 3 (.mov (.t 0)),
 O 4 (.bin .geq (.t 3) (.c (I 0))),
 O 5 (.mov (.t 4)),
 OG 6 5 true (.mov (.t 0)),
 OG 7 5 true (.bin .leq (.t 6) (.c (I 73048))),
 O 8 (.pick (.t 5) (.t 7) (.c (.b false))),
 O 2 (.mov (.t 8))] [8, 7, 6, 5, 4, 0, 3]) (
 .ret))⟩
end Go.Sim
end
section
namespace Go.Sim
def L1018_0 : PC :=
 sq (sq (.regD [
 O 16 (.mov (.t 6)),
 O 17 (.mov (.t 3)),
 O 18 (.len false (.t 17)),
 O 19 (.bin .lss (.t 16) (.t 18)),
 O 20 (.mov (.t 19)),
 OG 21 20 true (.mov (.t 3)),
 OG 22 20 true (.mov (.t 6)),
 OG 23 20 true (.iaddr (K1 3) (.t 21) (.t 22)),
 OG 24 20 true (.load (K1 3) (.t 23)),
 OG 25 20 true (.mov (.t 0)),
 OG 26 20 true (.mov (.t 4)),
 OG 27 20 true (.iaddr (K1 3) (.t 25) (.t 26)),
 OG 28 20 true (.load (K1 3) (.t 27)),
 OG 29 20 true (.call 0 1020 [(.t 24), (.t 28)]),
 O 30 (.pick (.t 20) (.t 29) (.c (.b false)))] [0, 0, 2, 7, 15, 31, 31, 127, 255, 31, 31, 1567, 3615, 8191, 16383] [29, 28, 27, 26, 25, 24, 23, 22, 21, 20, 19, 18, 17, 16]) (
 .cond (.t 30) (.skip)
 (.exit 2))) (
 .block 3 (
 .reg [
 O 31 (.mov (.t 6)),
 O 32 (.bin .add (.t 31) (.c (I 1))),
 O 6 (.mov (.t 32))] [32, 31]))
def L1018_1 : PC :=
 sq (sq (.reg [
 O 10 (.mov (.t 4)),
 O 11 (.mov (.t 0)),
 O 12 (.len false (.t 11)),
 O 13 (.bin .lss (.t 10) (.t 12))] [12, 11, 10]) (
 .cond (.t 13) (.skip)
 (.exit 0))) (
 sq (.block 1 (
 sq (.reg [
 O 5 (.mov (.c (.l (K1 3) [] true)))] []) (
 sq (.reg [
 O 6 (.mov (.c (I 0)))] []) (
 sq (.block 2 (
 .loop [0, 3, 4, 5, 6] L1018_0)) (
 sq (.reg [
 O 33 (.mov (.t 5)),
 O 34 (.mov (.t 3)),
 O 35 (.mov (.t 6)),
 O 36 (.sl (K1 3) (.t 34) none (some (.t 35)) none),
 O 37 (.app (K1 3) 32 (.t 33) (.t 36)),
 O 5 (.mov (.t 37))] [37, 36, 35, 34, 33]) (
 sq (.reg [
 O 38 (.mov (.t 0)),
 O 39 (.mov (.t 4)),
 O 40 (.iaddr (K1 3) (.t 38) (.t 39)),
 O 41 (.load (K1 3) (.t 40)),
 O 7 (.alloc (K1 3) (.a [(I 0), (I 0), (.s [])])),
 E (.store (K1 3) (.t 7) (.t 41))] [41, 40, 39, 38]) (
 sq (sq (.regD [
 O 42 (.mov (.t 6)),
 O 43 (.mov (.t 3)),
 O 44 (.len false (.t 43)),
 O 45 (.bin .lss (.t 42) (.t 44)),
 O 46 (.mov (.t 45)),
 OG 47 46 true (.load (K1 3) (.t 7)),
 OG 48 46 true (.mov (.t 3)),
 OG 49 46 true (.mov (.t 6)),
 OG 50 46 true (.iaddr (K1 3) (.t 48) (.t 49)),
 OG 51 46 true (.load (K1 3) (.t 50)),
 OG 52 46 true (.call 0 1020 [(.t 47), (.t 51)]),
 OG 53 46 true (.un .not (.t 52)),
 O 54 (.pick (.t 46) (.t 53) (.c (.b false)))] [0, 0, 2, 7, 15, 31, 31, 31, 223, 479, 1023, 2047, 4095] [53, 52, 51, 50, 49, 48, 47, 46, 45, 44, 43, 42]) (
 .cond (.t 54) (sq (.regD [
 O 55 (.faddr 1 (.t 7)),
 O 56 (.load K0 (.t 55)),
 O 57 (.mov (.t 3)),
 O 58 (.mov (.t 6)),
 O 59 (.iaddr (K1 3) (.t 57) (.t 58)),
 O 60 (.faddr 1 (.t 59)),
 O 61 (.load K0 (.t 60)),
 O 62 (.bin .add (.t 56) (.t 61)),
 O 63 (.faddr 1 (.t 7)),
 E (.store K0 (.t 63) (.t 62))] [0, 1, 0, 0, 12, 28, 60, 127, 255, 511] [63, 62, 61, 60, 59, 58, 57, 56, 55]) (
 .reg [
 O 64 (.mov (.t 6)),
 O 65 (.bin .add (.t 64) (.c (I 1))),
 O 6 (.mov (.t 65))] [65, 64]))
 (.skip))) (
 sq (.reg [
 O 66 (.mov (.t 5)),
 O 67 (.load (K1 3) (.t 7)),
 O 68 (.bsl (K1 3) (.a [(I 0), (I 0), (.s [])]) 1 [(0, (.t 67))]),
 O 69 (.app (K1 3) 32 (.t 66) (.t 68)),
 O 5 (.mov (.t 69))] [69, 68, 7, 67, 66]) (
 sq (.reg [
 O 70 (.mov (.t 5)),
 O 71 (.mov (.t 3)),
 O 72 (.mov (.t 6)),
 O 73 (.sl (K1 3) (.t 71) (some (.t 72)) none none),
 O 74 (.app (K1 3) 32 (.t 70) (.t 73)),
 O 5 (.mov (.t 74))] [74, 73, 6, 72, 3, 71, 70]) (
 .reg [
 O 75 (.mov (.t 5)),
 O 3 (.mov (.t 75))] [5, 75])))))))))) (
 .reg [
 O 14 (.mov (.t 4)),
 O 15 (.bin .add (.t 14) (.c (I 1))),
 O 4 (.mov (.t 15))] [15, 14]))
def L1018_2 : PC :=
 sq (sq (.reg [
 O 76 (.mov (.t 9)),
 O 77 (.mov (.t 3)),
 O 78 (.len false (.t 77)),
 O 79 (.bin .lss (.t 76) (.t 78))] [78, 77, 76]) (
 .cond (.t 79) (.skip)
 (.exit 4))) (
 sq (.block 5 (
 sq (.reg [
 O 82 (.mov (.t 3)),
 O 83 (.mov (.t 9)),
 O 84 (.iaddr (K1 3) (.t 82) (.t 83)),
 O 85 (.faddr 1 (.t 84)),
 O 86 (.load K0 (.t 85)),
 O 87 (.bin .neq (.t 86) (.c (I 0)))] [86, 85, 84, 83, 82]) (
 .cond (.t 87) (.reg [
 O 88 (.mov (.t 8)),
 O 89 (.mov (.t 3)),
 O 90 (.mov (.t 9)),
 O 91 (.iaddr (K1 3) (.t 89) (.t 90)),
 O 92 (.load (K1 3) (.t 91)),
 O 93 (.bsl (K1 3) (.a [(I 0), (I 0), (.s [])]) 1 [(0, (.t 92))]),
 O 94 (.app (K1 3) 32 (.t 88) (.t 93)),
 O 8 (.mov (.t 94))] [94, 93, 92, 91, 90, 89, 88])
 (.skip)))) (
 .reg [
 O 80 (.mov (.t 9)),
 O 81 (.bin .add (.t 80) (.c (I 1))),
 O 9 (.mov (.t 81))] [81, 80]))
def F1018 : PF := ⟨1, [.t 2],
 sq (.reg [
 O 2 (.mov (.c (.l (K1 3) [] true)))] [2]) (
 sq (.reg [
 O 3 (.mov (.c (.l (K1 3) [] true)))] []) (
 sq (sq (.reg [
 O 4 (.mov (.c (I 0)))] []) (
 .block 0 (
 .loop [0, 3, 4] L1018_1))) (
 sq (.reg [
 O 8 (.mov (.c (.l (K1 3) [] true)))] []) (
 sq (sq (.reg [
 O 9 (.mov (.c (I 0)))] []) (
 .block 4 (
 .loop [3, 8, 9] L1018_2))) (
 sq (.reg [
 O 95 (.mov (.t 8)),
 O 2 (.mov (.t 95))] [8, 95]) (
 .ret))))))⟩
def F1020 : PF := ⟨2, [.t 4],
 sq (.reg [
 O 2 (.box (K1 3) (.t 0)),
 O 3 (.box (K1 3) (.t 1)),
 O 4 (.mov (.c (.b false)))] [4, 1, 0]) (
 sq (.reg [
 O 5 (.faddr 0 (.t 2)),
 O 6 (.load K0 (.t 5)),
 O 7 (.faddr 0 (.t 3)),
 O 8 (.load K0 (.t 7)),
 O 9 (.bin .lss (.t 6) (.t 8)),
 O 10 (.mov (.t 9)),
 OG 11 10 false (.faddr 0 (.t 2)),
 OG 12 10 false (.load K0 (.t 11)),
 OG 13 10 false (.faddr 0 (.t 3)),
 OG 14 10 false (.load K0 (.t 13)),
 OG 15 10 false (.bin .eql (.t 12) (.t 14)),
 OG 16 10 false (.mov (.t 15)),
 OG 17 16 true (.faddr 2 (.t 2)),
 OG 18 16 true (.load K0 (.t 17)),
 OG 19 16 true (.faddr 2 (.t 3)),
 OG 20 16 true (.load K0 (.t 19)),
 OG 21 16 true (.bin .lss (.t 18) (.t 20)),
 OG 22 10 false (.pick (.t 16) (.t 21) (.c (.b false))),
 O 23 (.pick (.t 10) (.c (.b true)) (.t 22)),
 O 4 (.mov (.t 23))] [23, 22, 21, 20, 19, 18, 17, 16, 15, 14, 13, 12, 11, 10, 9, 8, 3, 7, 6, 2, 5]) (
 .ret))⟩
end Go.Sim
end
section
namespace Go.Sim
def F9 : PF := ⟨2, [.t 4],
 sq (.reg [
   O 2 (.box (K1 10) (.t 0)),
   O 3 (.box (K1 10) (.t 1)),
   O 4 (.mov (.c (.b false)))] [4, 1, 0]) (
 sq (.reg [
   O 5 (.faddr 0 (.t 2)),
   O 6 (.load K0 (.t 5)),
   O 7 (.faddr 0 (.t 3)),
   O 8 (.load K0 (.t 7)),
   O 9 (.bin .eql (.t 6) (.t 8)),
   O 10 (.mov (.t 9)),
   OG 11 10 true (.faddr 1 (.t 2)),
   OG 12 10 true (.load K0 (.t 11)),
   OG 13 10 true (.faddr 1 (.t 3)),
   OG 14 10 true (.load K0 (.t 13)),
   OG 15 10 true (.bin .eql (.t 12) (.t 14)),
   O 16 (.pick (.t 10) (.t 15) (.c (.b false))),
   O 17 (.mov (.t 16)),
   OG 18 17 true (.faddr 2 (.t 2)),
   OG 19 17 true (.load K0 (.t 18)),
   OG 20 17 true (.faddr 2 (.t 3)),
   OG 21 17 true (.load K0 (.t 20)),
   OG 22 17 true (.bin .eql (.t 19) (.t 21)),
   O 23 (.pick (.t 17) (.t 22) (.c (.b false))),
   O 24 (.mov (.t 23)),
   OG 25 24 true (.faddr 3 (.t 2)),
   OG 26 24 true (.load K0 (.t 25)),
   OG 27 24 true (.faddr 3 (.t 3)),
   OG 28 24 true (.load K0 (.t 27)),
   OG 29 24 true (.bin .eql (.t 26) (.t 28)),
   O 30 (.pick (.t 24) (.t 29) (.c (.b false))),
   O 31 (.mov (.t 30)),
   OG 32 31 true (.faddr 4 (.t 2)),
   OG 33 31 true (.load K0 (.t 32)),
   OG 34 31 true (.faddr 4 (.t 3)),
   OG 35 31 true (.load K0 (.t 34)),
   OG 36 31 true (.bin .eql (.t 33) (.t 35)),
   O 37 (.pick (.t 31) (.t 36) (.c (.b false))),
   O 38 (.mov (.t 37)),
   OG 39 38 true (.faddr 5 (.t 2)),
   OG 40 38 true (.load K0 (.t 39)),
   OG 41 38 true (.faddr 5 (.t 3)),
   OG 42 38 true (.load K0 (.t 41)),
   OG 43 38 true (.bin .eql (.t 40) (.t 42)),
   O 44 (.pick (.t 38) (.t 43) (.c (.b false))),
   O 45 (.mov (.t 44)),
   OG 46 45 true (.faddr 6 (.t 2)),
   OG 47 45 true (.load K0 (.t 46)),
   OG 48 45 true (.faddr 6 (.t 3)),
   OG 49 45 true (.load K0 (.t 48)),
   OG 50 45 true (.bin .eql (.t 47) (.t 49)),
   O 51 (.pick (.t 45) (.t 50) (.c (.b false))),
   O 52 (.mov (.t 51)),
   OG 53 52 true (.faddr 7 (.t 2)),
   OG 54 52 true (.load K0 (.t 53)),
   OG 55 52 true (.faddr 7 (.t 3)),
   OG 56 52 true (.load K0 (.t 55)),
   OG 57 52 true (.bin .eql (.t 54) (.t 56)),
   O 58 (.pick (.t 52) (.t 57) (.c (.b false))),
   O 59 (.mov (.t 58)),
   OG 60 59 true (.faddr 9 (.t 2)),
   OG 61 59 true (.load K0 (.t 60)),
   OG 62 59 true (.faddr 9 (.t 3)),
   OG 63 59 true (.load K0 (.t 62)),
   OG 64 59 true (.bin .eql (.t 61) (.t 63)),
   O 65 (.pick (.t 59) (.t 64) (.c (.b false))),
   O 66 (.mov (.t 65)),
   OG 67 66 true (.faddr 8 (.t 2)),
   OG 68 66 true (.load K0 (.t 67)),
   OG 69 66 true (.faddr 8 (.t 3)),
   OG 70 66 true (.load K0 (.t 69)),
   OG 71 66 true (.call 0 14 [(.t 68), (.t 70)]),
   O 72 (.pick (.t 66) (.t 71) (.c (.b false))),
   O 4 (.mov (.t 72))] [72, 71, 70, 69, 68, 67, 66, 65, 64, 63, 62, 61, 60, 59, 58, 57, 56, 55, 54, 53, 52, 51, 50, 49, 48, 47, 46, 45, 44, 43, 42, 41, 40, 39, 38, 37, 36, 35, 34, 33, 32, 31, 30, 29, 28, 27, 26, 25, 24, 23, 22, 21, 20, 19, 18, 17, 16, 15, 14, 13, 12, 11, 10, 9, 8, 3, 7, 6, 2, 5]) (
 .ret))⟩
def L14_0 : PC :=
 sq (sq (.reg [
    O 11 (.mov (.t 5)),
    O 12 (.mov (.t 0)),
    O 13 (.len false (.t 12)),
    O 14 (.bin .lss (.t 11) (.t 13))] [13, 12, 11]) (
  .cond (.t 14) (.skip)
   (.exit 0))) (
 sq (.block 1 (
   sq (.regD [
     O 17 (.mov (.t 0)),
     O 18 (.mov (.t 5)),
     O 19 (.iaddr (K1 3) (.t 17) (.t 18)),
     O 20 (.load (K1 3) (.t 19)),
     O 21 (.mov (.t 1)),
     O 22 (.mov (.t 5)),
     O 23 (.iaddr (K1 3) (.t 21) (.t 22)),
     O 24 (.load (K1 3) (.t 23)),
     O 25 (.eqv true [1, 1, 3] (.t 20) (.t 24))] [0, 0, 3, 7, 0, 0, 48, 112, 255] [24, 23, 22, 21, 20, 19, 18, 17]) (
   .cond (.t 25) (sq (.reg [
      O 4 (.mov (.c (.b false)))] []) (
    .ret))
    (.skip)))) (
 .reg [
  O 15 (.mov (.t 5)),
  O 16 (.bin .add (.t 15) (.c (I 1))),
  O 5 (.mov (.t 16))] [16, 15]))
def F14 : PF := ⟨2, [.t 4],
 sq (.reg [
   O 4 (.mov (.c (.b false)))] [4]) (
 sq (sq (.reg [
    O 6 (.mov (.t 0)),
    O 7 (.len false (.t 6)),
    O 8 (.mov (.t 1)),
    O 9 (.len false (.t 8)),
    O 10 (.bin .neq (.t 7) (.t 9))] [9, 8, 7, 6]) (
  .cond (.t 10) (sq (.reg [
     O 4 (.mov (.c (.b false)))] []) (
   .ret))
   (.skip))) (
 sq (sq (.reg [
    O 5 (.mov (.c (I 0)))] []) (
  .block 0 (
   .loop [0, 1, 5] L14_0))) (
 sq (.reg [
   O 4 (.mov (.c (.b true)))] []) (
 .ret))))⟩
def L26_0 : PC :=
 sq (sq (.reg [
    O 10 (.mov (.t 6)),
    O 11 (.bin .geq (.t 10) (.c (I 0)))] [10]) (
  .cond (.t 11) (.skip)
   (.exit 0))) (
 sq (.block 1 (
   sq (.reg [
     O 14 (.mov (.t 0)),
     O 15 (.mov (.t 6)),
     O 16 (.iaddr (K1 11) (.t 14) (.t 15)),
     O 17 (.faddr 0 (.t 16)),
     O 18 (.load K0 (.t 17)),
     O 19 (.mov (.t 1)),
     O 20 (.bin .eql (.t 18) (.t 19))] [19, 18, 17, 16, 15, 14]) (
   .cond (.t 20) (sq (.reg [
      O 21 (.mov (.t 0)),
      O 22 (.mov (.t 6)),
      O 23 (.iaddr (K1 11) (.t 21) (.t 22)),
      O 24 (.load (K1 11) (.t 23)),
      E (.store (K1 11) (.t 4) (.t 24)),
      O 5 (.mov (.c (.b true)))] [24, 23, 6, 22, 0, 21]) (
    .ret))
    (.skip)))) (
 .reg [
  O 12 (.mov (.t 6)),
  O 13 (.bin .sub (.t 12) (.c (I 1))),
  O 6 (.mov (.t 13))] [13, 12]))
def F26 : PF := ⟨2, [.c 4 (K1 11), .t 5],
 sq (.reg [
   O 4 (.alloc (K1 11) (.a [(I 0), (I 0), (I 0), (I 0), (I 0), (I 0), (I 0), (I 0), (.i .u64 0), (I 0), (.i .u64 0)])),
   O 5 (.mov (.c (.b false)))] [5]) (
 sq (sq (.reg [
    O 7 (.mov (.t 0)),
    O 8 (.len false (.t 7)),
    O 9 (.bin .sub (.t 8) (.c (I 1))),
    O 6 (.mov (.t 9))] [9, 8, 7]) (
  .block 0 (
   .loop [0, 1, 4, 6] L26_0))) (
 sq (.reg [
   O 25 (.agg [(I 0), (I 0), (I 0), (I 0), (I 0), (I 0), (I 0), (I 0), (.i .u64 0), (I 0), (.i .u64 0)] []),
   E (.store (K1 11) (.t 4) (.t 25)),
   O 5 (.mov (.c (.b false)))] [25]) (
 .ret)))⟩
def F727 : PF := ⟨4, [.c 8 (K1 10), .t 9],
 sq (.reg [
   O 4 (.box (K1 22) (.t 0)),
   O 5 (.box (K1 11) (.t 1)),
   O 6 (.box (K1 11) (.t 2)),
   O 8 (.alloc (K1 10) (.a [(I 0), (I 0), (I 0), (I 0), (I 0), (I 0), (.s []), (.s []), (.l (K1 3) [] true), (.i .u64 0)])),
   O 9 (.mov (.c (.b false)))] [9, 2, 1, 0]) (
 sq (.reg [
   O 20 (.load (K1 22) (.t 4)),
   O 21 (.faddr 0 (.t 6)),
   O 22 (.load K0 (.t 21)),
   O 23 (.faddr 2 (.t 6)),
   O 24 (.load K0 (.t 23)),
   O 25 (.call 0 24 [(.t 20), (.t 22), (.t 24)]),
   O 19 (.mov (.t 25)),
   O 26 (.ext (.t 19) 0),
   O 27 (.ext (.t 19) 1),
   O 10 (.alloc (K1 19) (.a [(.s []), (.s []), (.s []), (I 0), (I 0), (I 0), (I 0), (.l (K1 2) [] true), (.b false), (I 0), (I 0), (.b false), (.l (K1 2) [] true), (.b false), (I 0), (I 0), (.b false), (.l (K1 10) [] true), (.l (K1 6) [] true)])),
   E (.store (K1 19) (.t 10) (.t 26)),
   O 11 (.mov (.t 27))] [27, 26, 19, 25, 24, 23, 22, 21, 20]) (
 sq (sq (.reg [
    O 28 (.mov (.t 11)),
    O 29 (.un .not (.t 28))] [11, 28]) (
  .cond (.t 29) (sq (.reg [
     O 30 (.agg [(I 0), (I 0), (I 0), (I 0), (I 0), (I 0), (.s []), (.s []), (.l (K1 3) [] true), (.i .u64 0)] []),
     E (.store (K1 10) (.t 8) (.t 30)),
     O 9 (.mov (.c (.b false)))] [30]) (
   .ret))
   (.skip))) (
 sq (.reg [
   O 31 (.faddr 3 (.t 6)),
   O 32 (.load K0 (.t 31)),
   O 33 (.faddr 3 (.t 5)),
   O 34 (.load K0 (.t 33)),
   O 35 (.bin .sub (.t 32) (.t 34)),
   O 36 (.faddr 4 (.t 6)),
   O 37 (.load K0 (.t 36)),
   O 38 (.faddr 4 (.t 5)),
   O 39 (.load K0 (.t 38)),
   O 40 (.bin .sub (.t 37) (.t 39)),
   O 41 (.agg [(I 0), (I 0)] [(0, K0, (.t 35)), (1, K0, (.t 40))]),
   O 12 (.alloc (K1 2) (.a [(I 0), (I 0)])),
   E (.store (K1 2) (.t 12) (.t 41))] [41, 40, 39, 38, 37, 36, 35, 34, 33, 32, 31]) (
 sq (.reg [
   O 42 (.faddr 5 (.t 6)),
   O 43 (.load K0 (.t 42)),
   O 44 (.faddr 5 (.t 5)),
   O 45 (.load K0 (.t 44)),
   O 46 (.bin .sub (.t 43) (.t 45)),
   O 13 (.mov (.t 46))] [46, 45, 44, 43, 42]) (
 sq (.reg [
   O 47 (.mkf 806 [(.t 10)]),
   O 14 (.mov (.t 47))] [10, 47]) (
 sq (.regD [
   O 48 (.mov (.t 14)),
   O 49 (.faddr 3 (.t 4)),
   O 50 (.faddr 2 (.t 49)),
   O 51 (.load K0 (.t 50)),
   O 52 (.faddr 0 (.t 12)),
   O 53 (.load K0 (.t 52)),
   O 54 (.callv (.t 48) [(.t 51), (.t 53)]),
   O 55 (.mov (.t 14)),
   O 56 (.faddr 3 (.t 4)),
   O 57 (.faddr 3 (.t 56)),
   O 58 (.load K0 (.t 57)),
   O 59 (.faddr 1 (.t 12)),
   O 60 (.load K0 (.t 59)),
   O 61 (.un .neg (.t 60)),
   O 62 (.callv (.t 55) [(.t 58), (.t 61)]),
   O 63 (.mov (.t 14)),
   O 64 (.faddr 3 (.t 4)),
   O 65 (.faddr 5 (.t 64)),
   O 66 (.load K0 (.t 65)),
   O 67 (.mov (.t 13)),
   O 68 (.un .neg (.t 67)),
   O 69 (.callv (.t 63) [(.t 66), (.t 68)]),
   O 70 (.mov (.t 14)),
   O 71 (.faddr 0 (.t 6)),
   O 72 (.load K0 (.t 71)),
   O 73 (.faddr 0 (.t 12)),
   O 74 (.load K0 (.t 73)),
   O 75 (.un .neg (.t 74)),
   O 76 (.faddr 1 (.t 12)),
   O 77 (.load K0 (.t 76)),
   O 78 (.bin .add (.t 75) (.t 77)),
   O 79 (.mov (.t 13)),
   O 80 (.bin .add (.t 78) (.t 79)),
   O 81 (.callv (.t 70) [(.t 72), (.t 80)]),
   O 82 (.bsl (K1 3) (.a [(I 0), (I 0), (.s [])]) 4 [(0, (.t 54)), (1, (.t 62)), (2, (.t 69)), (3, (.t 81))]),
   O 83 (.call 0 110 [(.t 82)]),
   O 15 (.mov (.t 83))] [0, 0, 2, 6, 0, 16, 63, 0, 0, 256, 768, 0, 2048, 6144, 16383, 0, 0, 65536, 196608, 0, 524288, 2097151, 0, 0, 8388608, 0, 33554432, 100663296, 0, 268435456, 1040187392, 0, 4261412864, 8589934591, 17179869183, 34359738367, 68719476735] [83, 82, 81, 80, 79, 78, 77, 76, 75, 74, 73, 72, 71, 70, 69, 68, 13, 67, 66, 65, 64, 63, 62, 61, 60, 59, 58, 57, 56, 55, 54, 53, 12, 52, 51, 50, 4, 49, 14, 48]) (
 sq (sq (.reg [
    O 84 (.mov (.t 15)),
    O 85 (.len false (.t 84)),
    O 86 (.bin .eql (.t 85) (.c (I 0)))] [85, 84]) (
  .cond (.t 86) (sq (.reg [
     O 87 (.agg [(I 0), (I 0), (I 0), (I 0), (I 0), (I 0), (.s []), (.s []), (.l (K1 3) [] true), (.i .u64 0)] []),
     E (.store (K1 10) (.t 8) (.t 87)),
     O 9 (.mov (.c (.b false)))] [87]) (
   .ret))
   (.skip))) (
 sq (.reg [
   O 16 (.mov (.c (I 5)))] []) (
 sq (sq (.reg [
    O 88 (.faddr 6 (.t 5)),
    O 89 (.load K0 (.t 88)),
    O 90 (.bin .eql (.t 89) (.c (I 0)))] [89, 88]) (
  .cond (.t 90) (.reg [
    O 16 (.mov (.c (I 4)))] [])
   (.skip))) (
 sq (.reg [
   O 17 (.mov (.c (I 73048)))] []) (
 sq (sq (.reg [
    O 91 (.faddr 2 (.t 6)),
    O 92 (.load K0 (.t 91)),
    O 93 (.bin .lss (.t 92) (.c (I 73048)))] [92, 91]) (
  .cond (.t 93) (.reg [
    O 94 (.faddr 2 (.t 6)),
    O 95 (.load K0 (.t 94)),
    O 96 (.bin .add (.t 95) (.c (I 1))),
    O 17 (.mov (.t 96))] [96, 95, 94])
   (.skip))) (
 sq (.regD [
   O 97 (.faddr 0 (.t 6)),
   O 98 (.load K0 (.t 97)),
   O 99 (.call 0 109 [(.t 98)]),
   O 100 (.bin .add (.c (.s [105, 110, 116, 47])) (.t 99)),
   O 101 (.bin .add (.t 100) (.c (.s [47]))),
   O 102 (.faddr 2 (.t 6)),
   O 103 (.load K0 (.t 102)),
   O 104 (.call 0 109 [(.t 103)]),
   O 105 (.bin .add (.t 101) (.t 104)),
   O 106 (.bin .add (.t 105) (.c (.s [47]))),
   O 107 (.faddr 6 (.t 5)),
   O 108 (.load K0 (.t 107)),
   O 109 (.call 0 109 [(.t 108)]),
   O 110 (.bin .add (.t 106) (.t 109)),
   O 18 (.mov (.t 110))] [0, 1, 3, 7, 15, 0, 32, 103, 255, 511, 0, 1024, 3303, 8191, 16383] [110, 109, 108, 5, 107, 106, 105, 104, 103, 102, 101, 100, 99, 98, 97]) (
 sq (.reg [
   O 111 (.mov (.t 3)),
   O 112 (.mov (.t 17)),
   O 113 (.mov (.t 16)),
   O 114 (.faddr 2 (.t 6)),
   O 115 (.load K0 (.t 114)),
   O 116 (.mov (.t 18)),
   O 117 (.mov (.t 15)),
   O 118 (.agg [(I 0), (I 0), (I 0), (I 0), (I 0), (I 0), (.s []), (.s []), (.l (K1 3) [] true), (.i .u64 0)] [(1, K0, (.t 111)), (2, K0, (.t 112)), (3, K0, (.t 113)), (4, K0, (.c (I 1))), (5, K0, (.t 115)), (6, K0, (.t 116)), (7, K0, (.c (.s [105, 110, 116, 101, 114, 101, 115, 116]))), (8, K0, (.t 117))]),
   E (.store (K1 10) (.t 8) (.t 118)),
   O 9 (.mov (.c (.b true)))] [118, 15, 117, 18, 116, 115, 6, 114, 16, 113, 17, 112, 3, 111]) (
 .ret))))))))))))))⟩
def F776 : PF := ⟨1, [.t 2],
 sq (.reg [
   O 2 (.mov (.c (.s [])))] [2]) (
 sq (sq (.reg [
    O 3 (.mov (.t 0)),
    O 4 (.bin .geq (.t 3) (.c (I 0)))] [3]) (
  .cond (.t 4) (sq (.reg [
     O 5 (.mov (.t 0)),
     O 6 (.conv .u64 (.t 5)),
     O 7 (.call 0 862 [(.t 6)]),
     O 2 (.mov (.t 7))] [7, 6, 0, 5]) (
   .ret))
   (.skip))) (
 sq (.reg [
   O 8 (.mov (.t 0)),
   O 9 (.conv .u64 (.t 8)),
   O 10 (.un .xor (.t 9)),
   O 11 (.bin .add (.t 10) (.c (.i .u64 1))),
   O 12 (.call 0 862 [(.t 11)]),
   O 13 (.bin .add (.c (.s [45])) (.t 12)),
   O 2 (.mov (.t 13))] [13, 12, 11, 10, 9, 0, 8]) (
 .ret)))⟩
def F787 : PF := ⟨1, [.t 2],
 sq (.reg [
   O 2 (.mov (.c (I 0)))] [2]) (
 sq (sq (.reg [
    O 6 (.mov (.t 0)),
    O 7 (.call 0 22 [(.t 6)]),
    O 8 (.un .not (.t 7))] [7, 6]) (
  .cond (.t 8) (sq (.reg [
     O 2 (.mov (.c (I (-1))))] []) (
   .ret))
   (.skip))) (
 sq (.reg [
   O 10 (.mov (.t 0)),
   O 11 (.call 0 65 [(.t 10)]),
   O 9 (.mov (.t 11)),
   O 12 (.ext (.t 9) 0),
   O 13 (.ext (.t 9) 1),
   O 14 (.ext (.t 9) 2),
   O 3 (.mov (.t 12)),
   O 4 (.mov (.t 13)),
   O 5 (.mov (.t 14))] [14, 13, 12, 9, 11, 10]) (
 sq (.reg [
   O 15 (.mov (.t 0)),
   O 16 (.mov (.t 5)),
   O 17 (.bin .sub (.t 15) (.t 16)),
   O 18 (.mov (.t 3)),
   O 19 (.mov (.t 4)),
   O 20 (.call 0 72 [(.t 18), (.t 19)]),
   O 21 (.bin .add (.t 17) (.t 20)),
   O 2 (.mov (.t 21))] [21, 20, 4, 19, 3, 18, 17, 5, 16, 0, 15]) (
 .ret))))⟩
def F806 : PF := ⟨3, [.c 5 (K1 3)],
 sq (.reg [
   O 5 (.alloc (K1 3) (.a [(I 0), (I 0), (.s [])]))] []) (
 sq (.reg [
   O 6 (.mov (.t 0)),
   O 7 (.mov (.t 1)),
   O 8 (.faddr 1 (.t 2)),
   O 9 (.load K0 (.t 8)),
   O 10 (.agg [(I 0), (I 0), (.s [])] [(0, K0, (.t 6)), (1, K0, (.t 7)), (2, K0, (.t 9))]),
   E (.store (K1 3) (.t 5) (.t 10))] [10, 9, 2, 8, 1, 7, 0, 6]) (
 .ret))⟩
def L862_0 : PC :=
 sq (sq (.reg [
    O 5 (.mov (.t 3)),
    O 6 (.bin .eql (.t 5) (.c (.s []))),
    O 7 (.mov (.t 6)),
    OG 8 7 false (.mov (.t 0)),
    OG 9 7 false (.bin .gtr (.t 8) (.c (.i .u64 0))),
    O 10 (.pick (.t 7) (.c (.b true)) (.t 9))] [9, 8, 7, 6, 5]) (
  .cond (.t 10) (.skip)
   (.exit 0))) (
 .block 1 (
  sq (.reg [
    O 11 (.mov (.t 0)),
    O 12 (.bin .rem (.t 11) (.c (.i .u64 10))),
    O 4 (.mov (.t 12))] [12, 11]) (
  sq (.reg [
    O 13 (.mov (.t 4)),
    O 14 (.mov (.t 4)),
    O 15 (.bin .add (.t 14) (.c (.i .u64 1))),
    O 16 (.slS (.c (.s [48, 49, 50, 51, 52, 53, 54, 55, 56, 57])) (some (.t 13)) (some (.t 15))),
    O 17 (.mov (.t 3)),
    O 18 (.bin .add (.t 16) (.t 17)),
    O 3 (.mov (.t 18))] [18, 17, 16, 15, 14, 4, 13]) (
  .reg [
   O 19 (.mov (.t 0)),
   O 20 (.bin .quo (.t 19) (.c (.i .u64 10))),
   O 0 (.mov (.t 20))] [20, 19]))))
def F862 : PF := ⟨1, [.t 2],
 sq (.reg [
   O 2 (.mov (.c (.s [])))] [2]) (
 sq (.reg [
   O 3 (.mov (.c (.s [])))] []) (
 sq (.block 0 (
   .loop [0, 3] L862_0)) (
 sq (.reg [
   O 21 (.mov (.t 3)),
   O 2 (.mov (.t 21))] [3, 21]) (
 .ret))))⟩
def L866_0 : PC :=
 sq (sq (.reg [
    O 9 (.mov (.t 6)),
    O 10 (.bin .geq (.t 9) (.c (I 0))),
    O 11 (.mov (.t 10)),
    OG 12 11 true (.mov (.t 6)),
    OG 13 11 true (.mov (.t 1)),
    OG 14 11 true (.bin .leq (.t 12) (.t 13)),
    O 15 (.pick (.t 11) (.t 14) (.c (.b false)))] [14, 13, 12, 11, 10, 9]) (
  .cond (.t 15) (.skip)
   (.exit 0))) (
 sq (.block 1 (
   sq (.reg [
     O 19 (.mov (.t 2)),
     O 20 (.mov (.t 6)),
     O 21 (.callv (.t 19) [(.t 20)]),
     O 22 (.un .not (.t 21))] [21, 20, 19]) (
   .cond (.t 22) (.ret)
    (.skip)))) (
 .reg [
  O 16 (.mov (.t 6)),
  O 17 (.bin .add (.t 16) (.c (I 1))),
  O 18 (.call 0 787 [(.t 17)]),
  O 6 (.mov (.t 18))] [18, 17, 16]))
def F866 : PF := ⟨3, [],
 sq (.reg [
   O 7 (.mov (.t 0)),
   O 8 (.call 0 787 [(.t 7)]),
   O 6 (.mov (.t 8))] [8, 0, 7]) (
 .block 0 (
  .loop [1, 2, 6] L866_0))⟩
def F868 : PF := ⟨2, [.t 4],
 sq (.reg [
   O 4 (.mov (.c (.b false)))] [4]) (
 sq (.reg [
   O 9 (.mov (.t 1)),
   O 10 (.call 0 65 [(.t 9)]),
   O 8 (.mov (.t 10)),
   O 11 (.ext (.t 8) 0),
   O 12 (.ext (.t 8) 1),
   O 13 (.ext (.t 8) 2),
   O 5 (.mov (.t 11)),
   O 6 (.mov (.t 12)),
   O 7 (.mov (.t 13))] [7, 5, 13, 12, 11, 8, 10, 1, 9]) (
 sq (.reg [
   O 14 (.mov (.t 0)),
   O 15 (.bin .geq (.t 14) (.c (I 1))),
   O 16 (.mov (.t 15)),
   OG 17 16 true (.mov (.t 0)),
   OG 18 16 true (.bin .leq (.t 17) (.c (I 12))),
   O 19 (.pick (.t 16) (.t 18) (.c (.b false))),
   O 20 (.mov (.t 19)),
   OG 21 20 true (.mov (.t 6)),
   OG 22 20 true (.mov (.t 0)),
   OG 23 20 true (.bin .rem (.t 21) (.t 22)),
   OG 24 20 true (.bin .eql (.t 23) (.c (I 0))),
   O 25 (.pick (.t 20) (.t 24) (.c (.b false))),
   O 4 (.mov (.t 25))] [25, 24, 23, 22, 6, 21, 20, 19, 18, 17, 16, 15, 0, 14]) (
 .ret)))⟩
def L1104_0 : PC :=
 sq (sq (.reg [
    O 45 (.mov (.t 12)),
    O 46 (.faddr 8 (.t 7)),
    O 47 (.load K0 (.t 46)),
    O 48 (.len false (.t 47)),
    O 49 (.bin .lss (.t 45) (.t 48))] [48, 47, 46, 45]) (
  .cond (.t 49) (.skip)
   (.exit 0))) (
 sq (.block 1 (
   .reg [
    O 52 (.mov (.t 11)),
    O 53 (.faddr 8 (.t 7)),
    O 54 (.load K0 (.t 53)),
    O 55 (.mov (.t 12)),
    O 56 (.iaddr (K1 3) (.t 54) (.t 55)),
    O 57 (.faddr 1 (.t 56)),
    O 58 (.load K0 (.t 57)),
    O 59 (.bin .add (.t 52) (.t 58)),
    O 11 (.mov (.t 59))] [59, 58, 57, 56, 55, 54, 53, 52])) (
 .reg [
  O 50 (.mov (.t 12)),
  O 51 (.bin .add (.t 50) (.c (I 1))),
  O 12 (.mov (.t 51))] [51, 50]))
def F1104 : PF := ⟨3, [.t 6],
 sq (.reg [
   O 3 (.box (K1 22) (.t 0)),
   O 4 (.box (K1 22) (.t 1)),
   O 6 (.mov (.c (.b false)))] [6, 1, 0]) (
 sq (sq (.reg [
    O 13 (.load (K1 22) (.t 3)),
    O 14 (.call 0 1105 [(.t 13)])] [13]) (
  .cond (.t 14) (sq (.reg [
     O 15 (.call 0 1106 []),
     O 6 (.mov (.t 15))] [15]) (
   .ret))
   (.skip))) (
 sq (.reg [
   O 17 (.load (K1 22) (.t 3)),
   O 18 (.faddr 0 (.t 4)),
   O 19 (.load (K1 11) (.t 18)),
   O 20 (.faddr 11 (.t 4)),
   O 21 (.load (K1 11) (.t 20)),
   O 22 (.mov (.t 2)),
   O 23 (.call 0 727 [(.t 17), (.t 19), (.t 21), (.t 22)]),
   O 16 (.mov (.t 23)),
   O 24 (.ext (.t 16) 0),
   O 25 (.ext (.t 16) 1),
   O 7 (.alloc (K1 10) (.a [(I 0), (I 0), (I 0), (I 0), (I 0), (I 0), (.s []), (.s []), (.l (K1 3) [] true), (.i .u64 0)])),
   E (.store (K1 10) (.t 7) (.t 24)),
   O 8 (.mov (.t 25))] [25, 24, 16, 23, 22, 21, 20, 19, 18, 17]) (
 sq (.reg [
   O 27 (.load (K1 22) (.t 3)),
   O 28 (.faddr 0 (.t 4)),
   O 29 (.load (K1 11) (.t 28)),
   O 30 (.faddr 11 (.t 4)),
   O 31 (.load (K1 11) (.t 30)),
   O 32 (.mov (.t 2)),
   O 33 (.call 0 1107 [(.t 27), (.t 29), (.t 31), (.t 32)]),
   O 26 (.mov (.t 33)),
   O 34 (.ext (.t 26) 0),
   O 35 (.ext (.t 26) 1),
   O 9 (.alloc (K1 10) (.a [(I 0), (I 0), (I 0), (I 0), (I 0), (I 0), (.s []), (.s []), (.l (K1 3) [] true), (.i .u64 0)])),
   E (.store (K1 10) (.t 9) (.t 34)),
   O 10 (.mov (.t 35))] [35, 34, 26, 33, 2, 32, 31, 30, 29, 4, 28, 3, 27]) (
 sq (sq (.reg [
    O 36 (.load (K1 10) (.t 7)),
    O 37 (.load (K1 10) (.t 9)),
    O 38 (.call 0 9 [(.t 36), (.t 37)]),
    O 39 (.un .not (.t 38)),
    O 40 (.mov (.t 39)),
    OG 41 40 false (.mov (.t 8)),
    OG 42 40 false (.mov (.t 10)),
    OG 43 40 false (.eqb true (.t 41) (.t 42)),
    O 44 (.pick (.t 40) (.c (.b true)) (.t 43))] [43, 10, 42, 8, 41, 40, 39, 38, 9, 37, 36]) (
  .cond (.t 44) (sq (.reg [
     O 6 (.mov (.c (.b false)))] []) (
   .ret))
   (.skip))) (
 sq (.reg [
   O 11 (.mov (.c (I 0)))] []) (
 sq (sq (.reg [
    O 12 (.mov (.c (I 0)))] []) (
  .block 0 (
   .loop [7, 11, 12] L1104_0))) (
 sq (.reg [
   O 60 (.mov (.t 11)),
   O 61 (.bin .eql (.t 60) (.c (I 0))),
   O 62 (.mov (.t 61)),
   OG 63 62 true (.call 0 1106 []),
   O 64 (.pick (.t 62) (.t 63) (.c (.b false))),
   O 6 (.mov (.t 64))] [64, 63, 62, 61, 11, 60]) (
 .ret))))))))⟩
def L1105_0 : PC :=
 sq (sq (.reg [
    O 55 (.mov (.t 3)),
    O 56 (.faddr 0 (.t 1)),
    O 57 (.load K0 (.t 56)),
    O 58 (.len false (.t 57)),
    O 59 (.bin .lss (.t 55) (.t 58))] [58, 57, 56, 55]) (
  .cond (.t 59) (.skip)
   (.exit 0))) (
 sq (.block 1 (
   sq (.reg [
     O 62 (.faddr 0 (.t 1)),
     O 63 (.load K0 (.t 62)),
     O 64 (.mov (.t 3)),
     O 65 (.iaddr (K1 2) (.t 63) (.t 64)),
     O 66 (.faddr 0 (.t 65)),
     O 67 (.load K0 (.t 66)),
     O 68 (.len true (.t 67)),
     O 69 (.bin .gtr (.t 68) (.c (I 100)))] [68, 67, 66, 65, 64, 63, 62]) (
   .cond (.t 69) (sq (.reg [
      O 2 (.mov (.c (.b true)))] []) (
    .ret))
    (.skip)))) (
 .reg [
  O 60 (.mov (.t 3)),
  O 61 (.bin .add (.t 60) (.c (I 1))),
  O 3 (.mov (.t 61))] [61, 60]))
def L1105_1 : PC :=
 sq (sq (.reg [
    O 70 (.mov (.t 4)),
    O 71 (.faddr 1 (.t 1)),
    O 72 (.load K0 (.t 71)),
    O 73 (.len false (.t 72)),
    O 74 (.bin .lss (.t 70) (.t 73))] [73, 72, 71, 70]) (
  .cond (.t 74) (.skip)
   (.exit 2))) (
 sq (.block 3 (
   sq (.reg [
     O 77 (.faddr 1 (.t 1)),
     O 78 (.load K0 (.t 77)),
     O 79 (.mov (.t 4)),
     O 80 (.iaddr (K1 3) (.t 78) (.t 79)),
     O 81 (.faddr 0 (.t 80)),
     O 82 (.load K0 (.t 81)),
     O 83 (.len true (.t 82)),
     O 84 (.bin .gtr (.t 83) (.c (I 100))),
     O 85 (.mov (.t 84)),
     OG 86 85 false (.faddr 1 (.t 1)),
     OG 87 85 false (.load K0 (.t 86)),
     OG 88 85 false (.mov (.t 4)),
     OG 89 85 false (.iaddr (K1 3) (.t 87) (.t 88)),
     OG 90 85 false (.faddr 1 (.t 89)),
     OG 91 85 false (.load K0 (.t 90)),
     OG 92 85 false (.len false (.t 91)),
     OG 93 85 false (.bin .gtr (.t 92) (.c (I 20))),
     O 94 (.pick (.t 85) (.c (.b true)) (.t 93)),
     O 95 (.mov (.t 94)),
     OG 96 95 false (.faddr 1 (.t 1)),
     OG 97 95 false (.load K0 (.t 96)),
     OG 98 95 false (.mov (.t 4)),
     OG 99 95 false (.iaddr (K1 3) (.t 97) (.t 98)),
     OG 100 95 false (.faddr 2 (.t 99)),
     OG 101 95 false (.load K0 (.t 100)),
     OG 102 95 false (.len false (.t 101)),
     OG 103 95 false (.bin .gtr (.t 102) (.c (I 500))),
     O 104 (.pick (.t 95) (.c (.b true)) (.t 103))] [103, 102, 101, 100, 99, 98, 97, 96, 95, 94, 93, 92, 91, 90, 89, 88, 87, 86, 85, 84, 83, 82, 81, 80, 79, 78, 77]) (
   .cond (.t 104) (sq (.reg [
      O 2 (.mov (.c (.b true)))] []) (
    .ret))
    (.skip)))) (
 .reg [
  O 75 (.mov (.t 4)),
  O 76 (.bin .add (.t 75) (.c (I 1))),
  O 4 (.mov (.t 76))] [76, 75]))
def L1105_2 : PC :=
 sq (sq (.reg [
    O 105 (.mov (.t 5)),
    O 106 (.faddr 17 (.t 1)),
    O 107 (.load K0 (.t 106)),
    O 108 (.len false (.t 107)),
    O 109 (.bin .lss (.t 105) (.t 108))] [108, 107, 106, 105]) (
  .cond (.t 109) (.skip)
   (.exit 4))) (
 sq (.block 5 (
   sq (.reg [
     O 112 (.faddr 17 (.t 1)),
     O 113 (.load K0 (.t 112)),
     O 114 (.mov (.t 5)),
     O 115 (.iaddr (K1 19) (.t 113) (.t 114)),
     O 116 (.load (K1 19) (.t 115)),
     O 117 (.call 0 1109 [(.t 116)])] [116, 115, 114, 113, 112]) (
   .cond (.t 117) (sq (.reg [
      O 2 (.mov (.c (.b true)))] []) (
    .ret))
    (.skip)))) (
 .reg [
  O 110 (.mov (.t 5)),
  O 111 (.bin .add (.t 110) (.c (I 1))),
  O 5 (.mov (.t 111))] [111, 110]))
def L1105_3 : PC :=
 sq (sq (.reg [
    O 118 (.mov (.t 6)),
    O 119 (.faddr 18 (.t 1)),
    O 120 (.load K0 (.t 119)),
    O 121 (.len false (.t 120)),
    O 122 (.bin .lss (.t 118) (.t 121))] [121, 120, 119, 118]) (
  .cond (.t 122) (.skip)
   (.exit 6))) (
 sq (.block 7 (
   sq (.regD [
     O 125 (.faddr 18 (.t 1)),
     O 126 (.load K0 (.t 125)),
     O 127 (.mov (.t 6)),
     O 128 (.iaddr (K1 7) (.t 126) (.t 127)),
     O 129 (.faddr 4 (.t 128)),
     O 130 (.load K0 (.t 129)),
     O 131 (.faddr 18 (.t 1)),
     O 132 (.load K0 (.t 131)),
     O 133 (.mov (.t 6)),
     O 134 (.iaddr (K1 7) (.t 132) (.t 133)),
     O 135 (.faddr 5 (.t 134)),
     O 136 (.load K0 (.t 135)),
     O 137 (.faddr 18 (.t 1)),
     O 138 (.load K0 (.t 137)),
     O 139 (.mov (.t 6)),
     O 140 (.iaddr (K1 7) (.t 138) (.t 139)),
     O 141 (.faddr 6 (.t 140)),
     O 142 (.load K0 (.t 141)),
     O 143 (.call 0 1110 [(.t 130), (.t 136), (.t 142)]),
     O 144 (.un .not (.t 143))] [0, 1, 0, 7, 15, 31, 0, 64, 0, 448, 960, 1984, 0, 4096, 0, 28672, 61440, 126976, 262143, 524287] [143, 142, 141, 140, 139, 138, 137, 136, 135, 134, 133, 132, 131, 130, 129, 128, 127, 126, 125]) (
   .cond (.t 144) (sq (.reg [
      O 2 (.mov (.c (.b true)))] []) (
    .ret))
    (.skip)))) (
 .reg [
  O 123 (.mov (.t 6)),
  O 124 (.bin .add (.t 123) (.c (I 1))),
  O 6 (.mov (.t 124))] [124, 123]))
def L1105_4 : PC :=
 sq (sq (.reg [
    O 145 (.mov (.t 7)),
    O 146 (.faddr 2 (.t 1)),
    O 147 (.load K0 (.t 146)),
    O 148 (.len false (.t 147)),
    O 149 (.bin .lss (.t 145) (.t 148))] [148, 147, 146, 145]) (
  .cond (.t 149) (.skip)
   (.exit 8))) (
 sq (.block 9 (
   sq (.reg [
     O 152 (.faddr 2 (.t 1)),
     O 153 (.load K0 (.t 152)),
     O 154 (.mov (.t 7)),
     O 155 (.iaddr (K1 4) (.t 153) (.t 154)),
     O 156 (.faddr 3 (.t 155)),
     O 157 (.load K0 (.t 156)),
     O 158 (.len true (.t 157)),
     O 159 (.bin .gtr (.t 158) (.c (I 100)))] [158, 157, 156, 155, 154, 153, 152]) (
   .cond (.t 159) (sq (.reg [
      O 2 (.mov (.c (.b true)))] []) (
    .ret))
    (.skip)))) (
 .reg [
  O 150 (.mov (.t 7)),
  O 151 (.bin .add (.t 150) (.c (I 1))),
  O 7 (.mov (.t 151))] [151, 150]))
def L1105_5 : PC :=
 sq (sq (.reg [
    O 160 (.mov (.t 8)),
    O 161 (.faddr 20 (.t 1)),
    O 162 (.load K0 (.t 161)),
    O 163 (.len false (.t 162)),
    O 164 (.bin .lss (.t 160) (.t 163))] [163, 162, 161, 160]) (
  .cond (.t 164) (.skip)
   (.exit 10))) (
 sq (.block 11 (
   sq (.reg [
     O 167 (.faddr 20 (.t 1)),
     O 168 (.load K0 (.t 167)),
     O 169 (.mov (.t 8)),
     O 170 (.iaddr (K1 6) (.t 168) (.t 169)),
     O 171 (.faddr 5 (.t 170)),
     O 172 (.load K0 (.t 171)),
     O 173 (.len true (.t 172)),
     O 174 (.bin .gtr (.t 173) (.c (I 100)))] [173, 172, 171, 170, 169, 168, 167]) (
   .cond (.t 174) (sq (.reg [
      O 2 (.mov (.c (.b true)))] []) (
    .ret))
    (.skip)))) (
 .reg [
  O 165 (.mov (.t 8)),
  O 166 (.bin .add (.t 165) (.c (I 1))),
  O 8 (.mov (.t 166))] [166, 165]))
def L1105_6 : PC :=
 sq (sq (.reg [
    O 175 (.mov (.t 9)),
    O 176 (.faddr 21 (.t 1)),
    O 177 (.load K0 (.t 176)),
    O 178 (.len false (.t 177)),
    O 179 (.bin .lss (.t 175) (.t 178))] [178, 177, 176, 175]) (
  .cond (.t 179) (.skip)
   (.exit 12))) (
 sq (.block 13 (
   sq (.reg [
     O 182 (.faddr 21 (.t 1)),
     O 183 (.load K0 (.t 182)),
     O 184 (.mov (.t 9)),
     O 185 (.iaddr (K1 7) (.t 183) (.t 184)),
     O 186 (.faddr 6 (.t 185)),
     O 187 (.load K0 (.t 186)),
     O 188 (.len true (.t 187)),
     O 189 (.bin .gtr (.t 188) (.c (I 100)))] [188, 187, 186, 185, 184, 183, 182]) (
   .cond (.t 189) (sq (.reg [
      O 2 (.mov (.c (.b true)))] []) (
    .ret))
    (.skip)))) (
 .reg [
  O 180 (.mov (.t 9)),
  O 181 (.bin .add (.t 180) (.c (I 1))),
  O 9 (.mov (.t 181))] [181, 180]))
def F1105 : PF := ⟨1, [.t 2],
 sq (.reg [
   O 1 (.box (K1 22) (.t 0)),
   O 2 (.mov (.c (.b false)))] [2, 0]) (
 sq (sq (.reg [
    O 10 (.faddr 0 (.t 1)),
    O 11 (.load K0 (.t 10)),
    O 12 (.len false (.t 11)),
    O 13 (.bin .gtr (.t 12) (.c (I 20))),
    O 14 (.mov (.t 13)),
    OG 15 14 false (.faddr 1 (.t 1)),
    OG 16 14 false (.load K0 (.t 15)),
    OG 17 14 false (.len false (.t 16)),
    OG 18 14 false (.bin .gtr (.t 17) (.c (I 20))),
    O 19 (.pick (.t 14) (.c (.b true)) (.t 18)),
    O 20 (.mov (.t 19)),
    OG 21 20 false (.faddr 17 (.t 1)),
    OG 22 20 false (.load K0 (.t 21)),
    OG 23 20 false (.len false (.t 22)),
    OG 24 20 false (.bin .gtr (.t 23) (.c (I 20))),
    O 25 (.pick (.t 20) (.c (.b true)) (.t 24)),
    O 26 (.mov (.t 25)),
    OG 27 26 false (.faddr 18 (.t 1)),
    OG 28 26 false (.load K0 (.t 27)),
    OG 29 26 false (.len false (.t 28)),
    OG 30 26 false (.bin .gtr (.t 29) (.c (I 20))),
    O 31 (.pick (.t 26) (.c (.b true)) (.t 30)),
    O 32 (.mov (.t 31)),
    OG 33 32 false (.faddr 2 (.t 1)),
    OG 34 32 false (.load K0 (.t 33)),
    OG 35 32 false (.len false (.t 34)),
    OG 36 32 false (.bin .gtr (.t 35) (.c (I 60))),
    O 37 (.pick (.t 32) (.c (.b true)) (.t 36)),
    O 38 (.mov (.t 37)),
    OG 39 38 false (.faddr 20 (.t 1)),
    OG 40 38 false (.load K0 (.t 39)),
    OG 41 38 false (.len false (.t 40)),
    OG 42 38 false (.bin .gtr (.t 41) (.c (I 100))),
    O 43 (.pick (.t 38) (.c (.b true)) (.t 42)),
    O 44 (.mov (.t 43)),
    OG 45 44 false (.faddr 21 (.t 1)),
    OG 46 44 false (.load K0 (.t 45)),
    OG 47 44 false (.len false (.t 46)),
    OG 48 44 false (.bin .gtr (.t 47) (.c (I 100))),
    O 49 (.pick (.t 44) (.c (.b true)) (.t 48)),
    O 50 (.mov (.t 49)),
    OG 51 50 false (.faddr 19 (.t 1)),
    OG 52 50 false (.load K0 (.t 51)),
    OG 53 50 false (.call 0 1108 [(.t 52), (.c (I 60))]),
    O 54 (.pick (.t 50) (.c (.b true)) (.t 53))] [53, 52, 51, 50, 49, 48, 47, 46, 45, 44, 43, 42, 41, 40, 39, 38, 37, 36, 35, 34, 33, 32, 31, 30, 29, 28, 27, 26, 25, 24, 23, 22, 21, 20, 19, 18, 17, 16, 15, 14, 13, 12, 11, 10]) (
  .cond (.t 54) (sq (.reg [
     O 2 (.mov (.c (.b true)))] []) (
   .ret))
   (.skip))) (
 sq (sq (.reg [
    O 3 (.mov (.c (I 0)))] []) (
  .block 0 (
   .loop [1, 3] L1105_0))) (
 sq (sq (.reg [
    O 4 (.mov (.c (I 0)))] []) (
  .block 2 (
   .loop [1, 4] L1105_1))) (
 sq (sq (.reg [
    O 5 (.mov (.c (I 0)))] []) (
  .block 4 (
   .loop [1, 5] L1105_2))) (
 sq (sq (.reg [
    O 6 (.mov (.c (I 0)))] []) (
  .block 6 (
   .loop [1, 6] L1105_3))) (
 sq (sq (.reg [
    O 7 (.mov (.c (I 0)))] []) (
  .block 8 (
   .loop [1, 7] L1105_4))) (
 sq (sq (.reg [
    O 8 (.mov (.c (I 0)))] []) (
  .block 10 (
   .loop [1, 8] L1105_5))) (
 sq (sq (.reg [
    O 9 (.mov (.c (I 0)))] []) (
  .block 12 (
   .loop [1, 9] L1105_6))) (
 sq (.reg [
   O 2 (.mov (.c (.b false)))] []) (
 .ret))))))))))⟩
def F1107 : PF := ⟨4, [.c 8 (K1 10), .t 9],
 sq (.reg [
   O 4 (.box (K1 22) (.t 0)),
   O 5 (.box (K1 11) (.t 1)),
   O 6 (.box (K1 11) (.t 2)),
   O 8 (.alloc (K1 10) (.a [(I 0), (I 0), (I 0), (I 0), (I 0), (I 0), (.s []), (.s []), (.l (K1 3) [] true), (.i .u64 0)])),
   O 9 (.mov (.c (.b false)))] [9, 2, 1, 0]) (
 sq (.reg [
   O 18 (.load (K1 22) (.t 4)),
   O 19 (.faddr 0 (.t 6)),
   O 20 (.load K0 (.t 19)),
   O 21 (.faddr 2 (.t 6)),
   O 22 (.load K0 (.t 21)),
   O 23 (.call 0 1023 [(.t 18), (.t 20), (.t 22)]),
   O 17 (.mov (.t 23)),
   O 24 (.ext (.t 17) 0),
   O 25 (.ext (.t 17) 1),
   O 10 (.alloc (K1 19) (.a [(.s []), (.s []), (.s []), (I 0), (I 0), (I 0), (I 0), (.l (K1 2) [] true), (.b false), (I 0), (I 0), (.b false), (.l (K1 2) [] true), (.b false), (I 0), (I 0), (.b false), (.l (K1 10) [] true), (.l (K1 6) [] true)])),
   E (.store (K1 19) (.t 10) (.t 24)),
   O 11 (.mov (.t 25))] [25, 24, 17, 23, 22, 21, 20, 19, 18]) (
 sq (.regD [
   O 26 (.faddr 3 (.t 6)),
   O 27 (.load K0 (.t 26)),
   O 28 (.faddr 3 (.t 5)),
   O 29 (.load K0 (.t 28)),
   O 30 (.bin .sub (.t 27) (.t 29)),
   O 31 (.faddr 4 (.t 6)),
   O 32 (.load K0 (.t 31)),
   O 33 (.faddr 4 (.t 5)),
   O 34 (.load K0 (.t 33)),
   O 35 (.bin .sub (.t 32) (.t 34)),
   O 36 (.faddr 5 (.t 6)),
   O 37 (.load K0 (.t 36)),
   O 38 (.faddr 5 (.t 5)),
   O 39 (.load K0 (.t 38)),
   O 40 (.bin .sub (.t 37) (.t 39)),
   O 12 (.mov (.t 30)),
   O 13 (.mov (.t 35)),
   O 14 (.mov (.t 40))] [0, 1, 0, 4, 15, 0, 32, 0, 128, 480, 0, 1024, 0, 4096, 15360, 31, 33791, 131071] [40, 39, 38, 37, 36, 35, 34, 33, 32, 31, 30, 29, 28, 27, 26]) (
 sq (.reg [
   O 41 (.faddr 3 (.t 4)),
   O 42 (.faddr 2 (.t 41)),
   O 43 (.load K0 (.t 42)),
   O 44 (.mov (.t 12)),
   O 45 (.faddr 1 (.t 10)),
   O 46 (.load K0 (.t 45)),
   O 47 (.agg [(I 0), (I 0), (.s [])] [(0, K0, (.t 43)), (1, K0, (.t 44)), (2, K0, (.t 46))]),
   O 48 (.faddr 3 (.t 4)),
   O 49 (.faddr 3 (.t 48)),
   O 50 (.load K0 (.t 49)),
   O 51 (.mov (.t 13)),
   O 52 (.un .neg (.t 51)),
   O 53 (.faddr 1 (.t 10)),
   O 54 (.load K0 (.t 53)),
   O 55 (.agg [(I 0), (I 0), (.s [])] [(0, K0, (.t 50)), (1, K0, (.t 52)), (2, K0, (.t 54))]),
   O 56 (.faddr 3 (.t 4)),
   O 57 (.faddr 5 (.t 56)),
   O 58 (.load K0 (.t 57)),
   O 59 (.mov (.t 14)),
   O 60 (.un .neg (.t 59)),
   O 61 (.faddr 1 (.t 10)),
   O 62 (.load K0 (.t 61)),
   O 63 (.agg [(I 0), (I 0), (.s [])] [(0, K0, (.t 58)), (1, K0, (.t 60)), (2, K0, (.t 62))]),
   O 64 (.faddr 0 (.t 6)),
   O 65 (.load K0 (.t 64)),
   O 66 (.mov (.t 13)),
   O 67 (.mov (.t 14)),
   O 68 (.bin .add (.t 66) (.t 67)),
   O 69 (.mov (.t 12)),
   O 70 (.bin .sub (.t 68) (.t 69)),
   O 71 (.faddr 1 (.t 10)),
   O 72 (.load K0 (.t 71)),
   O 73 (.agg [(I 0), (I 0), (.s [])] [(0, K0, (.t 65)), (1, K0, (.t 70)), (2, K0, (.t 72))]),
   O 74 (.bsl (K1 3) (.a [(I 0), (I 0), (.s [])]) 4 [(0, (.t 47)), (1, (.t 55)), (2, (.t 63)), (3, (.t 73))]),
   O 75 (.call 0 1018 [(.t 74)]),
   O 15 (.mov (.t 75))] [75, 74, 73, 72, 71, 70, 69, 68, 67, 66, 65, 64, 63, 62, 61, 60, 14, 59, 58, 57, 56, 55, 54, 53, 52, 13, 51, 50, 49, 48, 47, 46, 10, 45, 12, 44, 43, 42, 4, 41]) (
 sq (sq (.reg [
    O 76 (.mov (.t 11)),
    O 77 (.un .not (.t 76)),
    O 78 (.mov (.t 77)),
    OG 79 78 false (.mov (.t 15)),
    OG 80 78 false (.len false (.t 79)),
    OG 81 78 false (.bin .eql (.t 80) (.c (I 0))),
    O 82 (.pick (.t 78) (.c (.b true)) (.t 81))] [81, 80, 79, 78, 77, 11, 76]) (
  .cond (.t 82) (sq (.reg [
     O 83 (.agg [(I 0), (I 0), (I 0), (I 0), (I 0), (I 0), (.s []), (.s []), (.l (K1 3) [] true), (.i .u64 0)] []),
     E (.store (K1 10) (.t 8) (.t 83)),
     O 9 (.mov (.c (.b false)))] [83]) (
   .ret))
   (.skip))) (
 sq (.reg [
   O 84 (.mov (.t 3)),
   O 85 (.faddr 2 (.t 6)),
   O 86 (.load K0 (.t 85)),
   O 87 (.mov (.t 15)),
   O 88 (.agg [(I 0), (I 0), (I 0), (I 0), (I 0), (I 0), (.s []), (.s []), (.l (K1 3) [] true), (.i .u64 0)] [(1, K0, (.t 84)), (2, K0, (.c (I 73048))), (3, K0, (.c (I 5))), (4, K0, (.c (I 1))), (5, K0, (.t 86)), (7, K0, (.c (.s [105, 110, 116, 101, 114, 101, 115, 116]))), (8, K0, (.t 87))]),
   O 16 (.alloc (K1 10) (.a [(I 0), (I 0), (I 0), (I 0), (I 0), (I 0), (.s []), (.s []), (.l (K1 3) [] true), (.i .u64 0)])),
   E (.store (K1 10) (.t 16) (.t 88))] [88, 15, 87, 86, 85, 3, 84]) (
 sq (.regD [
   O 89 (.faddr 0 (.t 6)),
   O 90 (.load K0 (.t 89)),
   O 91 (.call 0 776 [(.t 90)]),
   O 92 (.bin .add (.c (.s [105, 110, 116, 47])) (.t 91)),
   O 93 (.bin .add (.t 92) (.c (.s [47]))),
   O 94 (.faddr 2 (.t 6)),
   O 95 (.load K0 (.t 94)),
   O 96 (.call 0 776 [(.t 95)]),
   O 97 (.bin .add (.t 93) (.t 96)),
   O 98 (.bin .add (.t 97) (.c (.s [47]))),
   O 99 (.faddr 6 (.t 5)),
   O 100 (.load K0 (.t 99)),
   O 101 (.call 0 776 [(.t 100)]),
   O 102 (.bin .add (.t 98) (.t 101)),
   O 103 (.faddr 6 (.t 16)),
   E (.store K0 (.t 103) (.t 102))] [0, 1, 3, 7, 15, 0, 32, 103, 255, 511, 0, 1024, 3303, 8191, 16383, 32767] [103, 102, 101, 100, 99, 98, 97, 96, 95, 94, 93, 92, 91, 90, 89]) (
 sq (sq (.reg [
    O 104 (.faddr 6 (.t 5)),
    O 105 (.load K0 (.t 104)),
    O 106 (.bin .eql (.t 105) (.c (I 0)))] [105, 5, 104]) (
  .cond (.t 106) (.reg [
    O 107 (.faddr 3 (.t 16)),
    E (.store K0 (.t 107) (.c (I 4)))] [107])
   (.skip))) (
 sq (sq (.reg [
    O 108 (.faddr 2 (.t 6)),
    O 109 (.load K0 (.t 108)),
    O 110 (.bin .lss (.t 109) (.c (I 73048)))] [109, 108]) (
  .cond (.t 110) (.reg [
    O 111 (.faddr 2 (.t 6)),
    O 112 (.load K0 (.t 111)),
    O 113 (.bin .add (.t 112) (.c (I 1))),
    O 114 (.faddr 2 (.t 16)),
    E (.store K0 (.t 114) (.t 113))] [114, 113, 112, 6, 111])
   (.skip))) (
 sq (.reg [
   O 115 (.load (K1 10) (.t 16)),
   E (.store (K1 10) (.t 8) (.t 115)),
   O 9 (.mov (.c (.b true)))] [16, 115]) (
 .ret))))))))))⟩
def L1108_0 : PC :=
 sq (sq (.reg [
    O 6 (.mov (.t 5)),
    O 7 (.mov (.t 0)),
    O 8 (.len false (.t 7)),
    O 9 (.bin .lss (.t 6) (.t 8)),
    O 10 (.mov (.t 9)),
    OG 11 10 true (.mov (.t 5)),
    OG 12 10 true (.mov (.t 1)),
    OG 13 10 true (.bin .leq (.t 11) (.t 12)),
    O 14 (.pick (.t 10) (.t 13) (.c (.b false)))] [13, 12, 11, 10, 9, 8, 7, 6]) (
  .cond (.t 14) (.skip)
   (.exit 0))) (
 sq (.block 1 (
   sq (.reg [
     O 17 (.mov (.t 0)),
     O 18 (.mov (.t 5)),
     O 19 (.iaddr (K1 10) (.t 17) (.t 18)),
     O 20 (.load (K1 10) (.t 19)),
     O 21 (.call 0 1096 [(.t 20)])] [20, 19, 18, 17]) (
   .cond (.t 21) (sq (.reg [
      O 4 (.mov (.c (.b true)))] []) (
    .ret))
    (.skip)))) (
 .reg [
  O 15 (.mov (.t 5)),
  O 16 (.bin .add (.t 15) (.c (I 1))),
  O 5 (.mov (.t 16))] [16, 15]))
def F1108 : PF := ⟨2, [.t 4],
 sq (.reg [
   O 4 (.mov (.c (.b false)))] [4]) (
 sq (sq (.reg [
    O 5 (.mov (.c (I 0)))] []) (
  .block 0 (
   .loop [0, 1, 5] L1108_0))) (
 sq (.reg [
   O 22 (.mov (.t 0)),
   O 23 (.len false (.t 22)),
   O 24 (.mov (.t 1)),
   O 25 (.bin .gtr (.t 23) (.t 24)),
   O 4 (.mov (.t 25))] [25, 1, 24, 23, 0, 22]) (
 .ret)))⟩
def L1109_0 : PC :=
 sq (sq (.reg [
    O 39 (.mov (.t 3)),
    O 40 (.faddr 17 (.t 1)),
    O 41 (.load K0 (.t 40)),
    O 42 (.len false (.t 41)),
    O 43 (.bin .lss (.t 39) (.t 42))] [42, 41, 40, 39]) (
  .cond (.t 43) (.skip)
   (.exit 0))) (
 sq (.block 1 (
   sq (.reg [
     O 46 (.faddr 17 (.t 1)),
     O 47 (.load K0 (.t 46)),
     O 48 (.mov (.t 3)),
     O 49 (.iaddr (K1 10) (.t 47) (.t 48)),
     O 50 (.faddr 0 (.t 49)),
     O 51 (.load K0 (.t 50)),
     O 52 (.len true (.t 51)),
     O 53 (.bin .gtr (.t 52) (.c (I 100))),
     O 54 (.mov (.t 53)),
     OG 55 54 false (.faddr 17 (.t 1)),
     OG 56 54 false (.load K0 (.t 55)),
     OG 57 54 false (.mov (.t 3)),
     OG 58 54 false (.iaddr (K1 10) (.t 56) (.t 57)),
     OG 59 54 false (.faddr 2 (.t 58)),
     OG 60 54 false (.load (K1 4) (.t 59)),
     OG 61 54 false (.call 0 919 [(.t 60), (.c (I 100))]),
     O 62 (.pick (.t 54) (.c (.b true)) (.t 61)),
     O 63 (.mov (.t 62)),
     OG 64 63 false (.faddr 17 (.t 1)),
     OG 65 63 false (.load K0 (.t 64)),
     OG 66 63 false (.mov (.t 3)),
     OG 67 63 false (.iaddr (K1 10) (.t 65) (.t 66)),
     OG 68 63 false (.faddr 6 (.t 67)),
     OG 69 63 false (.load (K1 4) (.t 68)),
     OG 70 63 false (.call 0 919 [(.t 69), (.c (I 100))]),
     O 71 (.pick (.t 63) (.c (.b true)) (.t 70))] [70, 69, 68, 67, 66, 65, 64, 63, 62, 61, 60, 59, 58, 57, 56, 55, 54, 53, 52, 51, 50, 49, 48, 47, 46]) (
   .cond (.t 71) (sq (.reg [
      O 2 (.mov (.c (.b true)))] []) (
    .ret))
    (.skip)))) (
 .reg [
  O 44 (.mov (.t 3)),
  O 45 (.bin .add (.t 44) (.c (I 1))),
  O 3 (.mov (.t 45))] [45, 44]))
def L1109_1 : PC :=
 sq (sq (.reg [
    O 72 (.mov (.t 4)),
    O 73 (.faddr 18 (.t 1)),
    O 74 (.load K0 (.t 73)),
    O 75 (.len false (.t 74)),
    O 76 (.bin .lss (.t 72) (.t 75))] [75, 74, 73, 72]) (
  .cond (.t 76) (.skip)
   (.exit 2))) (
 sq (.block 3 (
   sq (.reg [
     O 79 (.faddr 18 (.t 1)),
     O 80 (.load K0 (.t 79)),
     O 81 (.mov (.t 4)),
     O 82 (.iaddr (K1 6) (.t 80) (.t 81)),
     O 83 (.faddr 0 (.t 82)),
     O 84 (.load K0 (.t 83)),
     O 85 (.len true (.t 84)),
     O 86 (.bin .gtr (.t 85) (.c (I 100))),
     O 87 (.mov (.t 86)),
     OG 88 87 false (.faddr 18 (.t 1)),
     OG 89 87 false (.load K0 (.t 88)),
     OG 90 87 false (.mov (.t 4)),
     OG 91 87 false (.iaddr (K1 6) (.t 89) (.t 90)),
     OG 92 87 false (.faddr 2 (.t 91)),
     OG 93 87 false (.load (K1 4) (.t 92)),
     OG 94 87 false (.call 0 919 [(.t 93), (.c (I 100))]),
     O 95 (.pick (.t 87) (.c (.b true)) (.t 94))] [94, 93, 92, 91, 90, 89, 88, 87, 86, 85, 84, 83, 82, 81, 80, 79]) (
   .cond (.t 95) (sq (.reg [
      O 2 (.mov (.c (.b true)))] []) (
    .ret))
    (.skip)))) (
 .reg [
  O 77 (.mov (.t 4)),
  O 78 (.bin .add (.t 77) (.c (I 1))),
  O 4 (.mov (.t 78))] [78, 77]))
def F1109 : PF := ⟨1, [.t 2],
 sq (.reg [
   O 1 (.box (K1 19) (.t 0)),
   O 2 (.mov (.c (.b false)))] [2, 0]) (
 sq (sq (.reg [
    O 5 (.faddr 0 (.t 1)),
    O 6 (.load K0 (.t 5)),
    O 7 (.faddr 1 (.t 1)),
    O 8 (.load K0 (.t 7)),
    O 9 (.faddr 2 (.t 1)),
    O 10 (.load K0 (.t 9)),
    O 11 (.call 0 1110 [(.t 6), (.t 8), (.t 10)]),
    O 12 (.un .not (.t 11)),
    O 13 (.mov (.t 12)),
    OG 14 13 false (.faddr 17 (.t 1)),
    OG 15 13 false (.load K0 (.t 14)),
    OG 16 13 false (.len false (.t 15)),
    OG 17 13 false (.bin .gtr (.t 16) (.c (I 8))),
    O 18 (.pick (.t 13) (.c (.b true)) (.t 17)),
    O 19 (.mov (.t 18)),
    OG 20 19 false (.faddr 18 (.t 1)),
    OG 21 19 false (.load K0 (.t 20)),
    OG 22 19 false (.len false (.t 21)),
    OG 23 19 false (.bin .gtr (.t 22) (.c (I 8))),
    O 24 (.pick (.t 19) (.c (.b true)) (.t 23)),
    O 25 (.mov (.t 24)),
    OG 26 25 false (.faddr 7 (.t 1)),
    OG 27 25 false (.faddr 0 (.t 26)),
    OG 28 25 false (.load K0 (.t 27)),
    OG 29 25 false (.len false (.t 28)),
    OG 30 25 false (.bin .gtr (.t 29) (.c (I 20))),
    O 31 (.pick (.t 25) (.c (.b true)) (.t 30)),
    O 32 (.mov (.t 31)),
    OG 33 32 false (.faddr 12 (.t 1)),
    OG 34 32 false (.faddr 0 (.t 33)),
    OG 35 32 false (.load K0 (.t 34)),
    OG 36 32 false (.len false (.t 35)),
    OG 37 32 false (.bin .gtr (.t 36) (.c (I 20))),
    O 38 (.pick (.t 32) (.c (.b true)) (.t 37))] [37, 36, 35, 34, 33, 32, 31, 30, 29, 28, 27, 26, 25, 24, 23, 22, 21, 20, 19, 18, 17, 16, 15, 14, 13, 12, 11, 10, 9, 8, 7, 6, 5]) (
  .cond (.t 38) (sq (.reg [
     O 2 (.mov (.c (.b true)))] []) (
   .ret))
   (.skip))) (
 sq (sq (.reg [
    O 3 (.mov (.c (I 0)))] []) (
  .block 0 (
   .loop [1, 3] L1109_0))) (
 sq (sq (.reg [
    O 4 (.mov (.c (I 0)))] []) (
  .block 2 (
   .loop [1, 4] L1109_1))) (
 sq (.reg [
   O 2 (.mov (.c (.b false)))] []) (
 .ret)))))⟩
def F1110 : PF := ⟨3, [.t 6],
 sq (.reg [
   O 6 (.mov (.c (.b false)))] [6]) (
 sq (.reg [
   O 7 (.mov (.t 0)),
   O 8 (.len true (.t 7)),
   O 9 (.bin .leq (.t 8) (.c (I 100))),
   O 10 (.mov (.t 9)),
   OG 11 10 true (.mov (.t 1)),
   OG 12 10 true (.len true (.t 11)),
   OG 13 10 true (.bin .leq (.t 12) (.c (I 100))),
   O 14 (.pick (.t 10) (.t 13) (.c (.b false))),
   O 15 (.mov (.t 14)),
   OG 16 15 true (.mov (.t 2)),
   OG 17 15 true (.len true (.t 16)),
   OG 18 15 true (.bin .leq (.t 17) (.c (I 100))),
   O 19 (.pick (.t 15) (.t 18) (.c (.b false))),
   O 6 (.mov (.t 19))] [19, 18, 17, 2, 16, 15, 14, 13, 12, 1, 11, 10, 9, 8, 0, 7]) (
 .ret))⟩
def L1112_0 : PC :=
 sq (sq (.reg [
    O 11 (.mov (.t 5)),
    O 12 (.mov (.t 0)),
    O 13 (.len false (.t 12)),
    O 14 (.bin .lss (.t 11) (.t 13))] [13, 12, 11]) (
  .cond (.t 14) (.skip)
   (.exit 0))) (
 sq (.block 1 (
   sq (.regD [
     O 17 (.mov (.t 0)),
     O 18 (.mov (.t 5)),
     O 19 (.iaddr K0 (.t 17) (.t 18)),
     O 20 (.load K0 (.t 19)),
     O 21 (.mov (.t 1)),
     O 22 (.mov (.t 5)),
     O 23 (.iaddr K0 (.t 21) (.t 22)),
     O 24 (.load K0 (.t 23)),
     O 25 (.bin .neq (.t 20) (.t 24))] [0, 0, 3, 7, 0, 0, 48, 112, 255] [24, 23, 22, 21, 20, 19, 18, 17]) (
   .cond (.t 25) (sq (.reg [
      O 4 (.mov (.c (.b false)))] []) (
    .ret))
    (.skip)))) (
 .reg [
  O 15 (.mov (.t 5)),
  O 16 (.bin .add (.t 15) (.c (I 1))),
  O 5 (.mov (.t 16))] [16, 15]))
def F1112 : PF := ⟨2, [.t 4],
 sq (.reg [
   O 4 (.mov (.c (.b false)))] [4]) (
 sq (sq (.reg [
    O 6 (.mov (.t 0)),
    O 7 (.len false (.t 6)),
    O 8 (.mov (.t 1)),
    O 9 (.len false (.t 8)),
    O 10 (.bin .neq (.t 7) (.t 9))] [9, 8, 7, 6]) (
  .cond (.t 10) (sq (.reg [
     O 4 (.mov (.c (.b false)))] []) (
   .ret))
   (.skip))) (
 sq (sq (.reg [
    O 5 (.mov (.c (I 0)))] []) (
  .block 0 (
   .loop [0, 1, 5] L1112_0))) (
 sq (.reg [
   O 4 (.mov (.c (.b true)))] []) (
 .ret))))⟩
def F1113 : PF := ⟨3, [.t 6],
 sq (.reg [
   O 3 (.box K0 (.t 0)),
   O 6 (.mov (.c (.l K0 [] true)))] [6, 0]) (
 sq (sq (.reg [
    O 8 (.mov (.t 1)),
    O 9 (.call 0 22 [(.t 8)]),
    O 10 (.un .not (.t 9)),
    O 11 (.mov (.t 10)),
    OG 12 11 false (.mov (.t 2)),
    OG 13 11 false (.call 0 22 [(.t 12)]),
    OG 14 11 false (.un .not (.t 13)),
    O 15 (.pick (.t 11) (.c (.b true)) (.t 14))] [14, 13, 12, 11, 10, 9, 8]) (
  .cond (.t 15) (sq (.reg [
     O 6 (.mov (.c (.l K0 [] true)))] []) (
   .ret))
   (.skip))) (
 sq (.reg [
   O 7 (.alloc K0 (.l K0 [] true))] []) (
 sq (.reg [
   O 16 (.mov (.t 1)),
   O 17 (.mov (.t 2)),
   O 18 (.mkf 1114 [(.t 3), (.t 7)]),
   O 19 (.call 2 866 [(.t 16), (.t 17), (.t 18)])] [19, 3, 18, 2, 17, 1, 16]) (
 sq (.reg [
   O 20 (.load K0 (.t 7)),
   O 6 (.mov (.t 20))] [7, 20]) (
 .ret)))))⟩
def F1114 : PF := ⟨3, [.t 4],
 sq (.reg [
   O 4 (.mov (.c (.b false)))] [4]) (
 sq (sq (.reg [
    O 5 (.load K0 (.t 1)),
    O 6 (.mov (.t 0)),
    O 7 (.call 0 868 [(.t 5), (.t 6)])] [6, 1, 5]) (
  .cond (.t 7) (.reg [
    O 8 (.load K0 (.t 2)),
    O 9 (.mov (.t 0)),
    O 10 (.bsl K0 (I 0) 1 [(0, (.t 9))]),
    O 11 (.app K0 8 (.t 8) (.t 10)),
    E (.store K0 (.t 2) (.t 11))] [11, 10, 0, 9, 2, 8])
   (.skip))) (
 sq (.reg [
   O 4 (.mov (.c (.b true)))] []) (
 .ret)))⟩
def F1115 : PF := ⟨3, [.t 6],
 sq (.reg [
   O 4 (.box (K1 3) (.t 1)),
   O 6 (.mov (.c (.b false)))] [6, 1]) (
 sq (sq (.reg [
    O 11 (.mov (.t 2)),
    O 12 (.len false (.t 11)),
    O 13 (.bin .gtr (.t 12) (.c (I 40))),
    O 14 (.mov (.t 13)),
    OG 15 14 false (.faddr 1 (.t 4)),
    OG 16 14 false (.load K0 (.t 15)),
    OG 17 14 false (.bin .lss (.t 16) (.c (I (-1099511627776)))),
    O 18 (.pick (.t 14) (.c (.b true)) (.t 17)),
    O 19 (.mov (.t 18)),
    OG 20 19 false (.faddr 1 (.t 4)),
    OG 21 19 false (.load K0 (.t 20)),
    OG 22 19 false (.bin .gtr (.t 21) (.c (I 1099511627776))),
    O 23 (.pick (.t 19) (.c (.b true)) (.t 22)),
    O 24 (.mov (.t 23)),
    OG 25 24 false (.faddr 2 (.t 4)),
    OG 26 24 false (.load K0 (.t 25)),
    OG 27 24 false (.bin .lss (.t 26) (.c (I (-1099511627776)))),
    O 28 (.pick (.t 24) (.c (.b true)) (.t 27)),
    O 29 (.mov (.t 28)),
    OG 30 29 false (.faddr 2 (.t 4)),
    OG 31 29 false (.load K0 (.t 30)),
    OG 32 29 false (.bin .gtr (.t 31) (.c (I 1099511627776))),
    O 33 (.pick (.t 29) (.c (.b true)) (.t 32)),
    O 34 (.mov (.t 33)),
    OG 35 34 false (.faddr 2 (.t 4)),
    OG 36 34 false (.load K0 (.t 35)),
    OG 37 34 false (.faddr 1 (.t 4)),
    OG 38 34 false (.load K0 (.t 37)),
    OG 39 34 false (.bin .sub (.t 36) (.t 38)),
    OG 40 34 false (.bin .gtr (.t 39) (.c (I 2000))),
    O 41 (.pick (.t 34) (.c (.b true)) (.t 40))] [40, 39, 38, 37, 36, 35, 34, 33, 32, 31, 30, 29, 28, 27, 26, 25, 24, 23, 22, 21, 20, 19, 18, 17, 16, 15, 14, 13, 12, 11]) (
  .cond (.t 41) (sq (.reg [
     O 42 (.call 0 1106 []),
     O 6 (.mov (.t 42))] [42]) (
   .ret))
   (.skip))) (
 sq (.reg [
   O 44 (.mov (.t 2)),
   O 45 (.faddr 0 (.t 4)),
   O 46 (.load K0 (.t 45)),
   O 47 (.call 0 26 [(.t 44), (.t 46)]),
   O 43 (.mov (.t 47)),
   O 48 (.ext (.t 43) 0),
   O 49 (.ext (.t 43) 1),
   O 7 (.alloc (K1 11) (.a [(I 0), (I 0), (I 0), (I 0), (I 0), (I 0), (I 0), (I 0), (.i .u64 0), (I 0), (.i .u64 0)])),
   E (.store (K1 11) (.t 7) (.t 48)),
   O 8 (.mov (.t 49))] [49, 48, 43, 47, 46, 45, 44]) (
 sq (.reg [
   O 51 (.mov (.t 2)),
   O 52 (.faddr 0 (.t 4)),
   O 53 (.load K0 (.t 52)),
   O 54 (.call 0 1116 [(.t 51), (.t 53)]),
   O 50 (.mov (.t 54)),
   O 55 (.ext (.t 50) 0),
   O 56 (.ext (.t 50) 1),
   O 9 (.alloc (K1 11) (.a [(I 0), (I 0), (I 0), (I 0), (I 0), (I 0), (I 0), (I 0), (.i .u64 0), (I 0), (.i .u64 0)])),
   E (.store (K1 11) (.t 9) (.t 55)),
   O 10 (.mov (.t 56))] [56, 55, 50, 54, 53, 52, 2, 51]) (
 sq (.regD [
   O 57 (.mov (.t 0)),
   O 58 (.faddr 1 (.t 4)),
   O 59 (.load K0 (.t 58)),
   O 60 (.faddr 2 (.t 4)),
   O 61 (.load K0 (.t 60)),
   O 62 (.call 0 1113 [(.t 57), (.t 59), (.t 61)]),
   O 63 (.mov (.t 0)),
   O 64 (.faddr 1 (.t 4)),
   O 65 (.load K0 (.t 64)),
   O 66 (.faddr 2 (.t 4)),
   O 67 (.load K0 (.t 66)),
   O 68 (.call 0 1117 [(.t 63), (.t 65), (.t 67)]),
   O 69 (.call 0 1112 [(.t 62), (.t 68)]),
   O 70 (.mov (.t 69)),
   OG 71 70 true (.load (K1 11) (.t 7)),
   OG 72 70 true (.load (K1 11) (.t 9)),
   OG 73 70 true (.eqv false [1, 1, 1, 1, 1, 1, 1, 1, 1, 1, 1] (.t 71) (.t 72)),
   O 74 (.pick (.t 70) (.t 73) (.c (.b false))),
   O 75 (.mov (.t 74)),
   OG 76 75 true (.mov (.t 8)),
   OG 77 75 true (.mov (.t 10)),
   OG 78 75 true (.eqb false (.t 76) (.t 77)),
   O 79 (.pick (.t 75) (.t 78) (.c (.b false))),
   O 80 (.mov (.t 79)),
   OG 81 80 true (.call 0 1106 []),
   O 82 (.pick (.t 80) (.t 81) (.c (.b false))),
   O 6 (.mov (.t 82))] [0, 0, 2, 0, 8, 31, 0, 0, 128, 0, 512, 2047, 4095, 8191, 16383, 16383, 65535, 131071, 262143, 524287, 524287, 2097151, 4194303, 8388607, 16777215, 33554431, 67108863] [82, 81, 80, 79, 78, 10, 77, 8, 76, 75, 74, 73, 9, 72, 7, 71, 70, 69, 68, 67, 66, 65, 64, 63, 62, 61, 60, 59, 4, 58, 0, 57]) (
 .ret)))))⟩
def L1116_0 : PC :=
 sq (sq (.reg [
    O 10 (.mov (.t 6)),
    O 11 (.bin .geq (.t 10) (.c (I 0)))] [10]) (
  .cond (.t 11) (.skip)
   (.exit 0))) (
 sq (.block 1 (
   sq (.reg [
     O 14 (.mov (.t 0)),
     O 15 (.mov (.t 6)),
     O 16 (.iaddr (K1 11) (.t 14) (.t 15)),
     O 17 (.faddr 0 (.t 16)),
     O 18 (.load K0 (.t 17)),
     O 19 (.mov (.t 1)),
     O 20 (.bin .eql (.t 18) (.t 19))] [19, 18, 17, 16, 15, 14]) (
   .cond (.t 20) (sq (.reg [
      O 21 (.mov (.t 0)),
      O 22 (.mov (.t 6)),
      O 23 (.iaddr (K1 11) (.t 21) (.t 22)),
      O 24 (.load (K1 11) (.t 23)),
      E (.store (K1 11) (.t 4) (.t 24)),
      O 5 (.mov (.c (.b true)))] [24, 23, 6, 22, 0, 21]) (
    .ret))
    (.skip)))) (
 .reg [
  O 12 (.mov (.t 6)),
  O 13 (.bin .sub (.t 12) (.c (I 1))),
  O 6 (.mov (.t 13))] [13, 12]))
def F1116 : PF := ⟨2, [.c 4 (K1 11), .t 5],
 sq (.reg [
   O 4 (.alloc (K1 11) (.a [(I 0), (I 0), (I 0), (I 0), (I 0), (I 0), (I 0), (I 0), (.i .u64 0), (I 0), (.i .u64 0)])),
   O 5 (.mov (.c (.b false)))] [5]) (
 sq (sq (.reg [
    O 7 (.mov (.t 0)),
    O 8 (.len false (.t 7)),
    O 9 (.bin .sub (.t 8) (.c (I 1))),
    O 6 (.mov (.t 9))] [9, 8, 7]) (
  .block 0 (
   .loop [0, 1, 4, 6] L1116_0))) (
 sq (.reg [
   O 25 (.agg [(I 0), (I 0), (I 0), (I 0), (I 0), (I 0), (I 0), (I 0), (.i .u64 0), (I 0), (.i .u64 0)] []),
   E (.store (K1 11) (.t 4) (.t 25)),
   O 5 (.mov (.c (.b false)))] [25]) (
 .ret)))⟩
def L1117_0 : PC :=
 sq (sq (.reg [
    O 32 (.mov (.t 8)),
    O 33 (.bin .geq (.t 32) (.c (I 0))),
    O 34 (.mov (.t 33)),
    OG 35 34 true (.mov (.t 8)),
    OG 36 34 true (.mov (.t 2)),
    OG 37 34 true (.bin .leq (.t 35) (.t 36)),
    O 38 (.pick (.t 34) (.t 37) (.c (.b false)))] [37, 36, 35, 34, 33, 32]) (
  .cond (.t 38) (.skip)
   (.exit 0))) (
 .block 1 (
  sq (.reg [
    O 40 (.mov (.t 8)),
    O 41 (.call 0 1045 [(.t 40)]),
    O 39 (.mov (.t 41)),
    O 42 (.ext (.t 39) 0),
    O 43 (.ext (.t 39) 1),
    O 44 (.ext (.t 39) 2),
    O 9 (.mov (.t 42)),
    O 10 (.mov (.t 43)),
    O 11 (.mov (.t 44))] [11, 9, 44, 43, 42, 39, 41, 40]) (
  sq (sq (.reg [
     O 45 (.mov (.t 10)),
     O 46 (.mov (.t 0)),
     O 47 (.bin .rem (.t 45) (.t 46)),
     O 48 (.bin .eql (.t 47) (.c (I 0)))] [47, 46, 10, 45]) (
   .cond (.t 48) (.reg [
     O 49 (.mov (.t 7)),
     O 50 (.mov (.t 8)),
     O 51 (.bsl K0 (I 0) 1 [(0, (.t 50))]),
     O 52 (.app K0 8 (.t 49) (.t 51)),
     O 7 (.mov (.t 52))] [52, 51, 50, 49])
    (.skip))) (
  .reg [
   O 53 (.mov (.t 8)),
   O 54 (.bin .add (.t 53) (.c (I 1))),
   O 55 (.call 0 1118 [(.t 54)]),
   O 8 (.mov (.t 55))] [55, 54, 53]))))
def F1117 : PF := ⟨3, [.t 6],
 sq (.reg [
   O 6 (.mov (.c (.l K0 [] true)))] [6]) (
 sq (.reg [
   O 12 (.bsl K0 (I 0) 0 []),
   O 7 (.mov (.t 12))] [12]) (
 sq (sq (.reg [
    O 13 (.mov (.t 0)),
    O 14 (.bin .lss (.t 13) (.c (I 1))),
    O 15 (.mov (.t 14)),
    OG 16 15 false (.mov (.t 0)),
    OG 17 15 false (.bin .gtr (.t 16) (.c (I 12))),
    O 18 (.pick (.t 15) (.c (.b true)) (.t 17)),
    O 19 (.mov (.t 18)),
    OG 20 19 false (.mov (.t 1)),
    OG 21 19 false (.call 0 544 [(.t 20)]),
    OG 22 19 false (.un .not (.t 21)),
    O 23 (.pick (.t 19) (.c (.b true)) (.t 22)),
    O 24 (.mov (.t 23)),
    OG 25 24 false (.mov (.t 2)),
    OG 26 24 false (.call 0 544 [(.t 25)]),
    OG 27 24 false (.un .not (.t 26)),
    O 28 (.pick (.t 24) (.c (.b true)) (.t 27))] [27, 26, 25, 24, 23, 22, 21, 20, 19, 18, 17, 16, 15, 14, 13]) (
  .cond (.t 28) (sq (.reg [
     O 29 (.mov (.t 7)),
     O 6 (.mov (.t 29))] [7, 29]) (
   .ret))
   (.skip))) (
 sq (.reg [
   O 30 (.mov (.t 1)),
   O 31 (.call 0 1118 [(.t 30)]),
   O 8 (.mov (.t 31))] [31, 1, 30]) (
 sq (.block 0 (
   .loop [0, 2, 7, 8] L1117_0)) (
 sq (.reg [
   O 56 (.mov (.t 7)),
   O 6 (.mov (.t 56))] [7, 56]) (
 .ret))))))⟩
def F1118 : PF := ⟨1, [.t 2],
 sq (.reg [
   O 2 (.mov (.c (I 0)))] [2]) (
 sq (sq (.reg [
    O 6 (.mov (.t 0)),
    O 7 (.call 0 544 [(.t 6)]),
    O 8 (.un .not (.t 7))] [7, 6]) (
  .cond (.t 8) (sq (.reg [
     O 2 (.mov (.c (I (-1))))] []) (
   .ret))
   (.skip))) (
 sq (.reg [
   O 10 (.mov (.t 0)),
   O 11 (.call 0 1045 [(.t 10)]),
   O 9 (.mov (.t 11)),
   O 12 (.ext (.t 9) 0),
   O 13 (.ext (.t 9) 1),
   O 14 (.ext (.t 9) 2),
   O 3 (.mov (.t 12)),
   O 4 (.mov (.t 13)),
   O 5 (.mov (.t 14))] [14, 13, 12, 9, 11, 10]) (
 sq (.reg [
   O 15 (.mov (.t 0)),
   O 16 (.mov (.t 3)),
   O 17 (.mov (.t 4)),
   O 18 (.call 0 1051 [(.t 16), (.t 17)]),
   O 19 (.bin .add (.t 15) (.t 18)),
   O 20 (.mov (.t 5)),
   O 21 (.bin .sub (.t 19) (.t 20)),
   O 2 (.mov (.t 21))] [21, 5, 20, 19, 18, 4, 17, 3, 16, 0, 15]) (
 .ret))))⟩
end Go.Sim
end
section
namespace Go.Sim
def L77_0 : PC :=
 sq (sq (.reg [
    O 86 (.mov (.t 3)),
    O 87 (.faddr 3 (.t 1)),
    O 88 (.faddr 18 (.t 87)),
    O 89 (.load K0 (.t 88)),
    O 90 (.len false (.t 89)),
    O 91 (.bin .lss (.t 86) (.t 90)),
    O 92 (.mov (.t 91)),
    OG 93 92 true (.faddr 0 (.t 1)),
    OG 94 92 true (.load K0 (.t 93)),
    OG 95 92 true (.bin .geq (.t 94) (.c (I 0))),
    O 96 (.pick (.t 92) (.t 95) (.c (.b false))),
    O 97 (.mov (.t 96)),
    OG 98 97 true (.faddr 0 (.t 1)),
    OG 99 97 true (.load K0 (.t 98)),
    OG 100 97 true (.bin .leq (.t 99) (.c (I 73048))),
    O 101 (.pick (.t 97) (.t 100) (.c (.b false)))] [100, 99, 98, 97, 96, 95, 94, 93, 92, 91, 90, 89, 88, 87, 86]) (
  .cond (.t 101) (.skip)
   (.exit 0))) (
 sq (.block 1 (
   sq (.reg [
     O 104 (.faddr 3 (.t 1)),
     O 105 (.faddr 18 (.t 104)),
     O 106 (.load K0 (.t 105)),
     O 107 (.mov (.t 3)),
     O 108 (.iaddr (K1 7) (.t 106) (.t 107)),
     O 109 (.faddr 1 (.t 108)),
     O 110 (.load K0 (.t 109)),
     O 4 (.mov (.t 110))] [110, 109, 108, 107, 106, 105, 104]) (
   sq (.reg [
     O 111 (.mov (.t 4)),
     O 112 (.bin .geq (.t 111) (.c (I 0))),
     O 113 (.mov (.t 112)),
     OG 114 113 true (.mov (.t 4)),
     OG 115 113 true (.faddr 0 (.t 1)),
     OG 116 113 true (.load K0 (.t 115)),
     OG 117 113 true (.bin .sub (.t 116) (.c (I 800))),
     OG 118 113 true (.bin .lss (.t 114) (.t 117)),
     O 119 (.pick (.t 113) (.t 118) (.c (.b false)))] [118, 117, 116, 115, 114, 113, 112, 4, 111]) (
   .cond (.t 119) (sq (.reg [
      O 2 (.mov (.c (.b false)))] []) (
    .ret))
    (.skip))))) (
 .reg [
  O 102 (.mov (.t 3)),
  O 103 (.bin .add (.t 102) (.c (I 1))),
  O 3 (.mov (.t 103))] [103, 102]))
def L77_1 : PC :=
 sq (sq (.reg [
    O 120 (.mov (.t 5)),
    O 121 (.faddr 25 (.t 1)),
    O 122 (.load K0 (.t 121)),
    O 123 (.len false (.t 122)),
    O 124 (.bin .lss (.t 120) (.t 123)),
    O 125 (.mov (.t 124)),
    OG 126 125 true (.faddr 0 (.t 1)),
    OG 127 125 true (.load K0 (.t 126)),
    OG 128 125 true (.bin .geq (.t 127) (.c (I 0))),
    O 129 (.pick (.t 125) (.t 128) (.c (.b false))),
    O 130 (.mov (.t 129)),
    OG 131 130 true (.faddr 0 (.t 1)),
    OG 132 130 true (.load K0 (.t 131)),
    OG 133 130 true (.bin .leq (.t 132) (.c (I 73048))),
    O 134 (.pick (.t 130) (.t 133) (.c (.b false)))] [133, 132, 131, 130, 129, 128, 127, 126, 125, 124, 123, 122, 121, 120]) (
  .cond (.t 134) (.skip)
   (.exit 2))) (
 sq (.block 3 (
   sq (.regD [
     O 137 (.faddr 25 (.t 1)),
     O 138 (.load K0 (.t 137)),
     O 139 (.mov (.t 5)),
     O 140 (.iaddr (K1 11) (.t 138) (.t 139)),
     O 141 (.faddr 2 (.t 140)),
     O 142 (.load K0 (.t 141)),
     O 143 (.faddr 0 (.t 1)),
     O 144 (.load K0 (.t 143)),
     O 145 (.bin .add (.t 144) (.c (I 400))),
     O 146 (.bin .gtr (.t 142) (.t 145))] [0, 1, 0, 7, 15, 31, 0, 64, 192, 511] [145, 144, 143, 142, 141, 140, 139, 138, 137]) (
   .cond (.t 146) (sq (.reg [
      O 2 (.mov (.c (.b false)))] []) (
    .ret))
    (.skip)))) (
 .reg [
  O 135 (.mov (.t 5)),
  O 136 (.bin .add (.t 135) (.c (I 1))),
  O 5 (.mov (.t 136))] [136, 135]))
def L77_2 : PC :=
 sq (sq (.reg [
    O 147 (.mov (.t 6)),
    O 148 (.faddr 25 (.t 1)),
    O 149 (.load K0 (.t 148)),
    O 150 (.len false (.t 149)),
    O 151 (.bin .lss (.t 147) (.t 150))] [150, 149, 148, 147]) (
  .cond (.t 151) (.skip)
   (.exit 4))) (
 sq (.block 5 (
   sq (.reg [
     O 154 (.faddr 25 (.t 1)),
     O 155 (.load K0 (.t 154)),
     O 156 (.mov (.t 6)),
     O 157 (.iaddr (K1 11) (.t 155) (.t 156)),
     O 158 (.faddr 6 (.t 157)),
     O 159 (.load K0 (.t 158)),
     O 160 (.bin .gtr (.t 159) (.c (I 1099511627776)))] [159, 158, 157, 156, 155, 154]) (
   .cond (.t 160) (sq (.reg [
      O 2 (.mov (.c (.b false)))] []) (
    .ret))
    (.skip)))) (
 .reg [
  O 152 (.mov (.t 6)),
  O 153 (.bin .add (.t 152) (.c (I 1))),
  O 6 (.mov (.t 153))] [153, 152]))
def L77_3 : PC :=
 sq (sq (.reg [
    O 165 (.mov (.t 7)),
    O 166 (.faddr 26 (.t 1)),
    O 167 (.load K0 (.t 166)),
    O 168 (.len false (.t 167)),
    O 169 (.bin .lss (.t 165) (.t 168))] [168, 167, 166, 165]) (
  .cond (.t 169) (.skip)
   (.exit 6))) (
 sq (.block 7 (
   sq (.reg [
     O 172 (.faddr 26 (.t 1)),
     O 173 (.load K0 (.t 172)),
     O 174 (.mov (.t 7)),
     O 175 (.iaddr (K1 25) (.t 173) (.t 174)),
     O 176 (.faddr 23 (.t 175)),
     O 177 (.load K0 (.t 176)),
     O 178 (.len false (.t 177)),
     O 179 (.bin .gtr (.t 178) (.c (I 60))),
     O 180 (.mov (.t 179)),
     OG 181 180 false (.faddr 26 (.t 1)),
     OG 182 180 false (.load K0 (.t 181)),
     OG 183 180 false (.mov (.t 7)),
     OG 184 180 false (.iaddr (K1 25) (.t 182) (.t 183)),
     OG 185 180 false (.faddr 24 (.t 184)),
     OG 186 180 false (.load K0 (.t 185)),
     OG 187 180 false (.len false (.t 186)),
     OG 188 180 false (.bin .gtr (.t 187) (.c (I 10))),
     O 189 (.pick (.t 180) (.c (.b true)) (.t 188))] [188, 187, 186, 185, 184, 183, 182, 181, 180, 179, 178, 177, 176, 175, 174, 173, 172]) (
   .cond (.t 189) (sq (.reg [
      O 2 (.mov (.c (.b false)))] []) (
    .ret))
    (.skip)))) (
 .reg [
  O 170 (.mov (.t 7)),
  O 171 (.bin .add (.t 170) (.c (I 1))),
  O 7 (.mov (.t 171))] [171, 170]))
def F77 : PF := ⟨1, [.t 2],
 sq (.reg [
   O 1 (.box (K1 42) (.t 0)),
   O 2 (.mov (.c (.b false)))] [2, 0]) (
 sq (sq (.reg [
    O 8 (.faddr 3 (.t 1)),
    O 9 (.load (K1 22) (.t 8)),
    O 10 (.call 0 85 [(.t 9)]),
    O 11 (.un .not (.t 10)),
    O 12 (.mov (.t 11)),
    OG 13 12 false (.faddr 25 (.t 1)),
    OG 14 12 false (.load K0 (.t 13)),
    OG 15 12 false (.len false (.t 14)),
    OG 16 12 false (.bin .gtr (.t 15) (.c (I 60))),
    O 17 (.pick (.t 12) (.c (.b true)) (.t 16)),
    O 18 (.mov (.t 17)),
    OG 19 18 false (.faddr 26 (.t 1)),
    OG 20 18 false (.load K0 (.t 19)),
    OG 21 18 false (.len false (.t 20)),
    OG 22 18 false (.bin .gtr (.t 21) (.c (I 8))),
    O 23 (.pick (.t 18) (.c (.b true)) (.t 22)),
    O 24 (.mov (.t 23)),
    OG 25 24 false (.faddr 27 (.t 1)),
    OG 26 24 false (.load K0 (.t 25)),
    OG 27 24 false (.len false (.t 26)),
    OG 28 24 false (.bin .gtr (.t 27) (.c (I 20))),
    O 29 (.pick (.t 24) (.c (.b true)) (.t 28)),
    O 30 (.mov (.t 29)),
    OG 31 30 false (.faddr 28 (.t 1)),
    OG 32 30 false (.load K0 (.t 31)),
    OG 33 30 false (.len false (.t 32)),
    OG 34 30 false (.bin .gtr (.t 33) (.c (I 20))),
    O 35 (.pick (.t 30) (.c (.b true)) (.t 34)),
    O 36 (.mov (.t 35)),
    OG 37 36 false (.faddr 29 (.t 1)),
    OG 38 36 false (.load K0 (.t 37)),
    OG 39 36 false (.len false (.t 38)),
    OG 40 36 false (.bin .gtr (.t 39) (.c (I 20))),
    O 41 (.pick (.t 36) (.c (.b true)) (.t 40)),
    O 42 (.mov (.t 41)),
    OG 43 42 false (.faddr 30 (.t 1)),
    OG 44 42 false (.load K0 (.t 43)),
    OG 45 42 false (.len false (.t 44)),
    OG 46 42 false (.bin .gtr (.t 45) (.c (I 20))),
    O 47 (.pick (.t 42) (.c (.b true)) (.t 46)),
    O 48 (.mov (.t 47)),
    OG 49 48 false (.faddr 31 (.t 1)),
    OG 50 48 false (.load K0 (.t 49)),
    OG 51 48 false (.len false (.t 50)),
    OG 52 48 false (.bin .gtr (.t 51) (.c (I 40))),
    O 53 (.pick (.t 48) (.c (.b true)) (.t 52)),
    O 54 (.mov (.t 53)),
    OG 55 54 false (.faddr 32 (.t 1)),
    OG 56 54 false (.load K0 (.t 55)),
    OG 57 54 false (.len false (.t 56)),
    OG 58 54 false (.bin .gtr (.t 57) (.c (I 20))),
    O 59 (.pick (.t 54) (.c (.b true)) (.t 58)),
    O 60 (.mov (.t 59)),
    OG 61 60 false (.faddr 33 (.t 1)),
    OG 62 60 false (.load K0 (.t 61)),
    OG 63 60 false (.len false (.t 62)),
    OG 64 60 false (.bin .gtr (.t 63) (.c (I 20))),
    O 65 (.pick (.t 60) (.c (.b true)) (.t 64)),
    O 66 (.mov (.t 65)),
    OG 67 66 false (.faddr 34 (.t 1)),
    OG 68 66 false (.load K0 (.t 67)),
    OG 69 66 false (.len false (.t 68)),
    OG 70 66 false (.bin .gtr (.t 69) (.c (I 90))),
    O 71 (.pick (.t 66) (.c (.b true)) (.t 70)),
    O 72 (.mov (.t 71)),
    OG 73 72 false (.faddr 39 (.t 1)),
    OG 74 72 false (.faddr 1 (.t 73)),
    OG 75 72 false (.load K0 (.t 74)),
    OG 76 72 false (.len false (.t 75)),
    OG 77 72 false (.bin .gtr (.t 76) (.c (I 20))),
    O 78 (.pick (.t 72) (.c (.b true)) (.t 77)),
    O 79 (.mov (.t 78)),
    OG 80 79 false (.faddr 39 (.t 1)),
    OG 81 79 false (.faddr 2 (.t 80)),
    OG 82 79 false (.load K0 (.t 81)),
    OG 83 79 false (.len false (.t 82)),
    OG 84 79 false (.bin .gtr (.t 83) (.c (I 20))),
    O 85 (.pick (.t 79) (.c (.b true)) (.t 84))] [84, 83, 82, 81, 80, 79, 78, 77, 76, 75, 74, 73, 72, 71, 70, 69, 68, 67, 66, 65, 64, 63, 62, 61, 60, 59, 58, 57, 56, 55, 54, 53, 52, 51, 50, 49, 48, 47, 46, 45, 44, 43, 42, 41, 40, 39, 38, 37, 36, 35, 34, 33, 32, 31, 30, 29, 28, 27, 26, 25, 24, 23, 22, 21, 20, 19, 18, 17, 16, 15, 14, 13, 12, 11, 10, 9, 8]) (
  .cond (.t 85) (sq (.reg [
     O 2 (.mov (.c (.b false)))] []) (
   .ret))
   (.skip))) (
 sq (sq (.reg [
    O 3 (.mov (.c (I 0)))] []) (
  .block 0 (
   .loop [1, 3] L77_0))) (
 sq (sq (.reg [
    O 5 (.mov (.c (I 0)))] []) (
  .block 2 (
   .loop [1, 5] L77_1))) (
 sq (sq (.reg [
    O 6 (.mov (.c (I 0)))] []) (
  .block 4 (
   .loop [1, 6] L77_2))) (
 sq (sq (.reg [
    O 161 (.faddr 35 (.t 1)),
    O 162 (.faddr 3 (.t 161)),
    O 163 (.load K0 (.t 162)),
    O 164 (.bin .gtr (.t 163) (.c (I 1099511627776)))] [163, 162, 161]) (
  .cond (.t 164) (sq (.reg [
     O 2 (.mov (.c (.b false)))] []) (
   .ret))
   (.skip))) (
 sq (sq (.reg [
    O 7 (.mov (.c (I 0)))] []) (
  .block 6 (
   .loop [1, 7] L77_3))) (
 sq (.reg [
   O 2 (.mov (.c (.b true)))] []) (
 .ret))))))))⟩
def L85_0 : PC :=
 sq (sq (.reg [
    O 51 (.mov (.t 3)),
    O 52 (.faddr 1 (.t 1)),
    O 53 (.load K0 (.t 52)),
    O 54 (.len false (.t 53)),
    O 55 (.bin .lss (.t 51) (.t 54))] [54, 53, 52, 51]) (
  .cond (.t 55) (.skip)
   (.exit 0))) (
 sq (.block 1 (
   sq (.reg [
     O 58 (.faddr 1 (.t 1)),
     O 59 (.load K0 (.t 58)),
     O 60 (.mov (.t 3)),
     O 61 (.iaddr (K1 3) (.t 59) (.t 60)),
     O 62 (.faddr 2 (.t 61)),
     O 63 (.load K0 (.t 62)),
     O 64 (.len false (.t 63)),
     O 65 (.bin .gtr (.t 64) (.c (I 40))),
     O 66 (.mov (.t 65)),
     OG 67 66 false (.faddr 1 (.t 1)),
     OG 68 66 false (.load K0 (.t 67)),
     OG 69 66 false (.mov (.t 3)),
     OG 70 66 false (.iaddr (K1 3) (.t 68) (.t 69)),
     OG 71 66 false (.faddr 1 (.t 70)),
     OG 72 66 false (.load K0 (.t 71)),
     OG 73 66 false (.len false (.t 72)),
     OG 74 66 false (.bin .gtr (.t 73) (.c (I 10))),
     O 75 (.pick (.t 66) (.c (.b true)) (.t 74))] [74, 73, 72, 71, 70, 69, 68, 67, 66, 65, 64, 63, 62, 61, 60, 59, 58]) (
   .cond (.t 75) (sq (.reg [
      O 2 (.mov (.c (.b false)))] []) (
    .ret))
    (.skip)))) (
 .reg [
  O 56 (.mov (.t 3)),
  O 57 (.bin .add (.t 56) (.c (I 1))),
  O 3 (.mov (.t 57))] [57, 56]))
def L85_1 : PC :=
 sq (sq (.reg [
    O 76 (.mov (.t 4)),
    O 77 (.faddr 19 (.t 1)),
    O 78 (.load K0 (.t 77)),
    O 79 (.len false (.t 78)),
    O 80 (.bin .lss (.t 76) (.t 79))] [79, 78, 77, 76]) (
  .cond (.t 80) (.skip)
   (.exit 2))) (
 sq (.block 3 (
   sq (.reg [
     O 83 (.faddr 19 (.t 1)),
     O 84 (.load K0 (.t 83)),
     O 85 (.mov (.t 4)),
     O 86 (.iaddr (K1 10) (.t 84) (.t 85)),
     O 87 (.faddr 8 (.t 86)),
     O 88 (.load K0 (.t 87)),
     O 89 (.len false (.t 88)),
     O 90 (.bin .gtr (.t 89) (.c (I 12)))] [89, 88, 87, 86, 85, 84, 83]) (
   .cond (.t 90) (sq (.reg [
      O 2 (.mov (.c (.b false)))] []) (
    .ret))
    (.skip)))) (
 .reg [
  O 81 (.mov (.t 4)),
  O 82 (.bin .add (.t 81) (.c (I 1))),
  O 4 (.mov (.t 82))] [82, 81]))
def F85 : PF := ⟨1, [.t 2],
 sq (.reg [
   O 1 (.box (K1 22) (.t 0)),
   O 2 (.mov (.c (.b false)))] [2, 0]) (
 sq (sq (.reg [
    O 5 (.faddr 18 (.t 1)),
    O 6 (.load K0 (.t 5)),
    O 7 (.len false (.t 6)),
    O 8 (.bin .gtr (.t 7) (.c (I 8))),
    O 9 (.mov (.t 8)),
    OG 10 9 false (.faddr 19 (.t 1)),
    OG 11 9 false (.load K0 (.t 10)),
    OG 12 9 false (.len false (.t 11)),
    OG 13 9 false (.bin .gtr (.t 12) (.c (I 90))),
    O 14 (.pick (.t 9) (.c (.b true)) (.t 13)),
    O 15 (.mov (.t 14)),
    OG 16 15 false (.faddr 2 (.t 1)),
    OG 17 15 false (.load K0 (.t 16)),
    OG 18 15 false (.len false (.t 17)),
    OG 19 15 false (.bin .gtr (.t 18) (.c (I 40))),
    O 20 (.pick (.t 15) (.c (.b true)) (.t 19)),
    O 21 (.mov (.t 20)),
    OG 22 21 false (.faddr 17 (.t 1)),
    OG 23 21 false (.load K0 (.t 22)),
    OG 24 21 false (.len false (.t 23)),
    OG 25 21 false (.bin .gtr (.t 24) (.c (I 12))),
    O 26 (.pick (.t 21) (.c (.b true)) (.t 25)),
    O 27 (.mov (.t 26)),
    OG 28 27 false (.faddr 1 (.t 1)),
    OG 29 27 false (.load K0 (.t 28)),
    OG 30 27 false (.len false (.t 29)),
    OG 31 27 false (.bin .gtr (.t 30) (.c (I 4))),
    O 32 (.pick (.t 27) (.c (.b true)) (.t 31)),
    O 33 (.mov (.t 32)),
    OG 34 33 false (.faddr 20 (.t 1)),
    OG 35 33 false (.load K0 (.t 34)),
    OG 36 33 false (.len false (.t 35)),
    OG 37 33 false (.bin .gtr (.t 36) (.c (I 20))),
    O 38 (.pick (.t 33) (.c (.b true)) (.t 37)),
    O 39 (.mov (.t 38)),
    OG 40 39 false (.faddr 21 (.t 1)),
    OG 41 39 false (.load K0 (.t 40)),
    OG 42 39 false (.len false (.t 41)),
    OG 43 39 false (.bin .gtr (.t 42) (.c (I 20))),
    O 44 (.pick (.t 39) (.c (.b true)) (.t 43)),
    O 45 (.mov (.t 44)),
    OG 46 45 false (.faddr 0 (.t 1)),
    OG 47 45 false (.load K0 (.t 46)),
    OG 48 45 false (.len false (.t 47)),
    OG 49 45 false (.bin .gtr (.t 48) (.c (I 8))),
    O 50 (.pick (.t 45) (.c (.b true)) (.t 49))] [49, 48, 47, 46, 45, 44, 43, 42, 41, 40, 39, 38, 37, 36, 35, 34, 33, 32, 31, 30, 29, 28, 27, 26, 25, 24, 23, 22, 21, 20, 19, 18, 17, 16, 15, 14, 13, 12, 11, 10, 9, 8, 7, 6, 5]) (
  .cond (.t 50) (sq (.reg [
     O 2 (.mov (.c (.b false)))] []) (
   .ret))
   (.skip))) (
 sq (sq (.reg [
    O 3 (.mov (.c (I 0)))] []) (
  .block 0 (
   .loop [1, 3] L85_0))) (
 sq (sq (.reg [
    O 4 (.mov (.c (I 0)))] []) (
  .block 2 (
   .loop [1, 4] L85_1))) (
 sq (.reg [
   O 2 (.mov (.c (.b true)))] []) (
 .ret)))))⟩
def L89_0 : PC :=
 sq (.reg [
   O 28 (.bin .lss (.t 27) (.t 26))] []) (
 sq (.cond (.t 28) (.skip)
   (.exit 0)) (
 sq (.block 1 (
   sq (.reg [
     O 29 (.iaddr (K1 2) (.t 25) (.t 27)),
     O 30 (.load (K1 2) (.t 29)),
     O 17 (.alloc (K1 2) (.a [(I 0), (I 0)])),
     E (.store (K1 2) (.t 17) (.t 30))] [30, 29]) (
   sq (.reg [
     O 32 (.faddr 3 (.t 6)),
     O 33 (.faddr 3 (.t 32)),
     O 34 (.load (K1 14) (.t 33)),
     O 35 (.faddr 0 (.t 17)),
     O 36 (.load K0 (.t 35)),
     O 37 (.call 0 107 [(.t 34), (.t 36)]),
     O 31 (.mov (.t 37)),
     O 38 (.ext (.t 31) 0),
     O 39 (.ext (.t 31) 1),
     O 18 (.mov (.t 38)),
     O 19 (.mov (.t 39))] [39, 38, 31, 37, 36, 35, 34, 33, 32]) (
   sq (sq (.reg [
      O 40 (.mov (.t 19)),
      O 41 (.un .not (.t 40)),
      O 42 (.mov (.t 41)),
      OG 43 42 false (.faddr 1 (.t 17)),
      OG 44 42 false (.load K0 (.t 43)),
      OG 45 42 false (.call 0 108 [(.t 44)]),
      OG 46 42 false (.un .not (.t 45)),
      O 47 (.pick (.t 42) (.c (.b true)) (.t 46))] [46, 45, 44, 43, 42, 41, 19, 40]) (
    .cond (.t 47) (sq (.reg [
       O 48 (.agg [(I 0), (I 0), (I 0), (I 0), (I 0), (I 0), (.s []), (.s []), (.l (K1 3) [] true), (.i .u64 0)] []),
       E (.store (K1 10) (.t 12) (.t 48)),
       O 13 (.mov (.c (I 1)))] [48]) (
     .ret))
     (.skip))) (
   sq (.reg [
     O 49 (.faddr 0 (.t 17)),
     O 50 (.load K0 (.t 49)),
     O 51 (.bin .neq (.t 50) (.c (I 5)))] [50, 49]) (
   .cond (.t 51) (sq (.reg [
      O 52 (.mov (.t 14)),
      O 53 (.faddr 1 (.t 17)),
      O 54 (.load K0 (.t 53)),
      O 55 (.bin .add (.t 52) (.t 54)),
      O 14 (.mov (.t 55))] [55, 54, 53, 52]) (
    .reg [
     O 56 (.mov (.t 15)),
     O 57 (.mov (.t 18)),
     O 58 (.faddr 1 (.t 17)),
     O 59 (.load K0 (.t 58)),
     O 60 (.un .neg (.t 59)),
     O 61 (.faddr 11 (.t 7)),
     O 62 (.faddr 11 (.t 61)),
     O 63 (.load K0 (.t 62)),
     O 64 (.agg [(I 0), (I 0), (.s [])] [(0, K0, (.t 57)), (1, K0, (.t 60)), (2, K0, (.t 63))]),
     O 65 (.bsl (K1 3) (.a [(I 0), (I 0), (.s [])]) 1 [(0, (.t 64))]),
     O 66 (.app (K1 3) 32 (.t 56) (.t 65)),
     O 15 (.mov (.t 66))] [66, 65, 64, 63, 62, 61, 60, 59, 17, 58, 18, 57, 56]))
    (.skip))))))) (
 .reg [
  O 67 (.bin .add (.t 27) (.c (I 1))),
  O 27 (.mov (.t 67))] [67])))
def F89 : PF := ⟨6, [.c 12 (K1 10), .t 13],
 sq (.reg [
   O 6 (.box (K1 42) (.t 0)),
   O 7 (.box (K1 25) (.t 1)),
   O 12 (.alloc (K1 10) (.a [(I 0), (I 0), (I 0), (I 0), (I 0), (I 0), (.s []), (.s []), (.l (K1 3) [] true), (.i .u64 0)])),
   O 13 (.mov (.c (I 0)))] [13, 1, 0]) (
 sq (sq (.reg [
    O 21 (.mov (.t 2)),
    O 22 (.len false (.t 21)),
    O 23 (.bin .gtr (.t 22) (.c (I 12)))] [22, 21]) (
  .cond (.t 23) (sq (.reg [
     O 24 (.agg [(I 0), (I 0), (I 0), (I 0), (I 0), (I 0), (.s []), (.s []), (.l (K1 3) [] true), (.i .u64 0)] []),
     E (.store (K1 10) (.t 12) (.t 24)),
     O 13 (.mov (.c (I 1)))] [24]) (
   .ret))
   (.skip))) (
 sq (.reg [
   O 14 (.mov (.c (I 0)))] []) (
 sq (.reg [
   O 15 (.mov (.c (.l (K1 3) [] true)))] []) (
 sq (sq (.reg [
    O 25 (.mov (.t 2)),
    O 26 (.len false (.t 25)),
    O 27 (.mov (.c (I 0)))] [2]) (
  .block 0 (
   .loop [3, 4, 5, 6, 7, 12, 14, 15, 25, 26, 27] L89_0))) (
 sq (.reg [
   O 68 (.mov (.t 15)),
   O 69 (.mov (.t 3)),
   O 70 (.mov (.t 14)),
   O 71 (.faddr 11 (.t 7)),
   O 72 (.faddr 11 (.t 71)),
   O 73 (.load K0 (.t 72)),
   O 74 (.agg [(I 0), (I 0), (.s [])] [(0, K0, (.t 69)), (1, K0, (.t 70)), (2, K0, (.t 73))]),
   O 75 (.bsl (K1 3) (.a [(I 0), (I 0), (.s [])]) 1 [(0, (.t 74))]),
   O 76 (.app (K1 3) 32 (.t 68) (.t 75)),
   O 15 (.mov (.t 76))] [76, 75, 74, 73, 72, 71, 14, 70, 3, 69, 68]) (
 sq (.reg [
   O 77 (.mov (.t 4)),
   O 78 (.mov (.t 4)),
   O 79 (.mov (.t 5)),
   O 80 (.faddr 0 (.t 7)),
   O 81 (.load K0 (.t 80)),
   O 82 (.call 0 109 [(.t 81)]),
   O 83 (.bin .add (.c (.s [108, 111, 97, 110, 32])) (.t 82)),
   O 84 (.mov (.t 15)),
   O 85 (.call 0 110 [(.t 84)]),
   O 86 (.agg [(I 0), (I 0), (I 0), (I 0), (I 0), (I 0), (.s []), (.s []), (.l (K1 3) [] true), (.i .u64 0)] [(1, K0, (.t 77)), (2, K0, (.t 78)), (3, K0, (.c (I 8))), (6, K0, (.t 79)), (7, K0, (.t 83)), (8, K0, (.t 85))]),
   O 20 (.alloc (K1 10) (.a [(I 0), (I 0), (I 0), (I 0), (I 0), (I 0), (.s []), (.s []), (.l (K1 3) [] true), (.i .u64 0)])),
   E (.store (K1 10) (.t 20) (.t 86))] [86, 85, 15, 84, 83, 82, 81, 7, 80, 5, 79, 78, 4, 77]) (
 sq (sq (.reg [
    O 87 (.load (K1 10) (.t 20)),
    O 88 (.call 0 111 [(.t 87)]),
    O 89 (.bin .neq (.t 88) (.c (I 0)))] [88, 87]) (
  .cond (.t 89) (sq (.reg [
     O 90 (.agg [(I 0), (I 0), (I 0), (I 0), (I 0), (I 0), (.s []), (.s []), (.l (K1 3) [] true), (.i .u64 0)] []),
     E (.store (K1 10) (.t 12) (.t 90)),
     O 13 (.mov (.c (I 1)))] [90]) (
   .ret))
   (.skip))) (
 sq (.reg [
   O 91 (.load (K1 10) (.t 20)),
   E (.store (K1 10) (.t 12) (.t 91)),
   O 13 (.mov (.c (I 0)))] [20, 91]) (
 .ret)))))))))⟩
def F107 : PF := ⟨2, [.t 4, .t 5],
 sq (.reg [
   O 2 (.box (K1 14) (.t 0)),
   O 4 (.mov (.c (I 0))),
   O 5 (.mov (.c (.b false)))] [5, 4, 0]) (
 sq (sq (.reg [
    O 6 (.mov (.t 1))] []) (
  .block 0 (
   sq (.reg [
     O 8 (.bin .eql (.t 6) (.c (I 1))),
     O 7 (.mov (.t 8))] [8]) (
   .cond (.t 7) (sq (.reg [
      O 9 (.faddr 4 (.t 2)),
      O 10 (.load K0 (.t 9)),
      O 4 (.mov (.t 10)),
      O 5 (.mov (.c (.b true)))] [10, 2, 9]) (
    .ret))
    (sq (.reg [
      O 12 (.bin .eql (.t 6) (.c (I 2))),
      O 11 (.mov (.t 12))] [12]) (
    .cond (.t 11) (sq (.reg [
       O 13 (.faddr 9 (.t 2)),
       O 14 (.load K0 (.t 13)),
       O 4 (.mov (.t 14)),
       O 5 (.mov (.c (.b true)))] [14, 2, 13]) (
     .ret))
     (sq (.reg [
       O 16 (.bin .eql (.t 6) (.c (I 3))),
       O 15 (.mov (.t 16))] [16]) (
     .cond (.t 15) (sq (.reg [
        O 17 (.faddr 8 (.t 2)),
        O 18 (.load K0 (.t 17)),
        O 4 (.mov (.t 18)),
        O 5 (.mov (.c (.b true)))] [18, 2, 17]) (
      .ret))
      (sq (.reg [
        O 20 (.bin .eql (.t 6) (.c (I 4))),
        O 19 (.mov (.t 20))] [6, 20]) (
      .cond (.t 19) (sq (.reg [
         O 21 (.faddr 7 (.t 2)),
         O 22 (.load K0 (.t 21)),
         O 4 (.mov (.t 22)),
         O 5 (.mov (.c (.b true)))] [22, 2, 21]) (
       .ret))
       (.skip))))))))))) (
 sq (.reg [
   O 23 (.mov (.t 1)),
   O 24 (.bin .eql (.t 23) (.c (I 5))),
   O 4 (.mov (.c (I 0))),
   O 5 (.mov (.t 24))] [24, 1, 23]) (
 .ret)))⟩
def F108 : PF := ⟨1, [.t 2],
 sq (.reg [
   O 2 (.mov (.c (.b false)))] [2]) (
 sq (.reg [
   O 3 (.mov (.t 0)),
   O 4 (.bin .geq (.t 3) (.c (I 0))),
   O 5 (.mov (.t 4)),
   OG 6 5 true (.mov (.t 0)),
   OG 7 5 true (.bin .leq (.t 6) (.c (I 1000000000000))),
   O 8 (.pick (.t 5) (.t 7) (.c (.b false))),
   O 2 (.mov (.t 8))] [8, 7, 6, 5, 4, 0, 3]) (
 .ret))⟩
def L111_0 : PC :=
 sq (.reg [
   O 69 (.bin .lss (.t 68) (.t 67))] []) (
 sq (.cond (.t 69) (.skip)
   (.exit 1)) (
 sq (.block 2 (
   sq (.reg [
     O 70 (.iaddr (K1 3) (.t 66) (.t 68)),
     O 71 (.load (K1 3) (.t 70)),
     O 4 (.alloc (K1 3) (.a [(I 0), (I 0), (.s [])])),
     E (.store (K1 3) (.t 4) (.t 71))] [71, 70]) (
   sq (sq (.reg [
      O 72 (.faddr 0 (.t 4)),
      O 73 (.load K0 (.t 72)),
      O 74 (.bin .lss (.t 73) (.c (I 1))),
      O 75 (.mov (.t 74)),
      OG 76 75 false (.faddr 1 (.t 4)),
      OG 77 75 false (.load K0 (.t 76)),
      OG 78 75 false (.bin .eql (.t 77) (.c (I 0))),
      O 79 (.pick (.t 75) (.c (.b true)) (.t 78)),
      O 80 (.mov (.t 79)),
      OG 81 80 false (.faddr 1 (.t 4)),
      OG 82 80 false (.load K0 (.t 81)),
      OG 83 80 false (.bin .lss (.t 82) (.c (I (-1000000000000)))),
      O 84 (.pick (.t 80) (.c (.b true)) (.t 83)),
      O 85 (.mov (.t 84)),
      OG 86 85 false (.faddr 1 (.t 4)),
      OG 87 85 false (.load K0 (.t 86)),
      OG 88 85 false (.bin .gtr (.t 87) (.c (I 1000000000000))),
      O 89 (.pick (.t 85) (.c (.b true)) (.t 88))] [88, 87, 86, 85, 84, 83, 82, 81, 80, 79, 78, 77, 76, 75, 74, 73, 72]) (
    .cond (.t 89) (sq (.reg [
       O 2 (.mov (.c (I 1)))] []) (
     .ret))
     (.skip))) (
   sq (.reg [
     O 90 (.faddr 2 (.t 4)),
     O 91 (.load K0 (.t 90)),
     O 92 (.call 0 185 [(.t 91)]),
     O 93 (.un .not (.t 92))] [92, 91, 4, 90]) (
   .cond (.t 93) (sq (.reg [
      O 2 (.mov (.c (I 14)))] []) (
    .ret))
    (.skip)))))) (
 .reg [
  O 94 (.bin .add (.t 68) (.c (I 1))),
  O 68 (.mov (.t 94))] [94])))
def L111_1 : PC :=
 sq (.reg [
   O 100 (.bin .lss (.t 99) (.t 98))] []) (
 sq (.cond (.t 100) (.skip)
   (.exit 3)) (
 sq (.block 4 (
   sq (.reg [
     O 101 (.iaddr (K1 2) (.t 97) (.t 99)),
     O 102 (.load (K1 2) (.t 101)),
     O 6 (.alloc (K1 2) (.a [(.s []), (I 0)])),
     E (.store (K1 2) (.t 6) (.t 102))] [102, 101]) (
   sq (.reg [
     O 103 (.faddr 1 (.t 6)),
     O 104 (.load K0 (.t 103)),
     O 105 (.bin .neq (.t 104) (.c (I 0)))] [104, 6, 103]) (
   .cond (.t 105) (sq (.reg [
      O 2 (.mov (.c (I 15)))] []) (
    .ret))
    (.skip))))) (
 .reg [
  O 106 (.bin .add (.t 99) (.c (I 1))),
  O 99 (.mov (.t 106))] [106])))
def F111 : PF := ⟨1, [.t 2],
 sq (.reg [
   O 1 (.box (K1 10) (.t 0)),
   O 2 (.mov (.c (I 0)))] [2, 0]) (
 sq (.block 0 (
   sq (.reg [
     O 8 (.faddr 6 (.t 1)),
     O 9 (.load K0 (.t 8)),
     O 10 (.call 0 182 [(.t 9)]),
     O 11 (.un .not (.t 10)),
     O 7 (.mov (.t 11))] [11, 10, 9, 8]) (
   .cond (.t 7) (sq (.reg [
      O 2 (.mov (.c (I 4)))] []) (
    .ret))
    (sq (.reg [
      O 13 (.faddr 7 (.t 1)),
      O 14 (.load K0 (.t 13)),
      O 15 (.call 0 183 [(.t 14), (.c (.i .u8 32)), (.c (I 64))]),
      O 16 (.un .not (.t 15)),
      O 17 (.mov (.t 16)),
      OG 18 17 false (.faddr 1 (.t 1)),
      OG 19 17 false (.load K0 (.t 18)),
      OG 20 17 false (.call 0 184 [(.t 19)]),
      OG 21 17 false (.un .not (.t 20)),
      O 22 (.pick (.t 17) (.c (.b true)) (.t 21)),
      O 23 (.mov (.t 22)),
      OG 24 23 false (.faddr 2 (.t 1)),
      OG 25 23 false (.load K0 (.t 24)),
      OG 26 23 false (.call 0 184 [(.t 25)]),
      OG 27 23 false (.un .not (.t 26)),
      O 28 (.pick (.t 23) (.c (.b true)) (.t 27)),
      O 29 (.mov (.t 28)),
      OG 30 29 false (.faddr 5 (.t 1)),
      OG 31 29 false (.load K0 (.t 30)),
      OG 32 29 false (.call 0 184 [(.t 31)]),
      OG 33 29 false (.un .not (.t 32)),
      O 34 (.pick (.t 29) (.c (.b true)) (.t 33)),
      O 12 (.mov (.t 34))] [34, 33, 32, 31, 30, 29, 28, 27, 26, 25, 24, 23, 22, 21, 20, 19, 18, 17, 16, 15, 14, 13]) (
    .cond (.t 12) (sq (.reg [
       O 2 (.mov (.c (I 1)))] []) (
     .ret))
     (sq (.reg [
       O 36 (.faddr 3 (.t 1)),
       O 37 (.load K0 (.t 36)),
       O 38 (.bin .lss (.t 37) (.c (I 1))),
       O 39 (.mov (.t 38)),
       OG 40 39 false (.faddr 3 (.t 1)),
       OG 41 39 false (.load K0 (.t 40)),
       OG 42 39 false (.bin .gtr (.t 41) (.c (I 14))),
       O 43 (.pick (.t 39) (.c (.b true)) (.t 42)),
       O 44 (.mov (.t 43)),
       OG 45 44 false (.faddr 4 (.t 1)),
       OG 46 44 false (.load K0 (.t 45)),
       OG 47 44 false (.bin .lss (.t 46) (.c (I 0))),
       O 48 (.pick (.t 44) (.c (.b true)) (.t 47)),
       O 49 (.mov (.t 48)),
       OG 50 49 false (.faddr 4 (.t 1)),
       OG 51 49 false (.load K0 (.t 50)),
       OG 52 49 false (.bin .gtr (.t 51) (.c (I 3))),
       O 53 (.pick (.t 49) (.c (.b true)) (.t 52)),
       O 35 (.mov (.t 53))] [53, 52, 51, 50, 49, 48, 47, 46, 45, 44, 43, 42, 41, 40, 39, 38, 37, 36]) (
     .cond (.t 35) (sq (.reg [
        O 2 (.mov (.c (I 1)))] []) (
      .ret))
      (sq (.reg [
        O 55 (.faddr 8 (.t 1)),
        O 56 (.load K0 (.t 55)),
        O 57 (.len false (.t 56)),
        O 58 (.bin .lss (.t 57) (.c (I 2))),
        O 59 (.mov (.t 58)),
        OG 60 59 false (.faddr 8 (.t 1)),
        OG 61 59 false (.load K0 (.t 60)),
        OG 62 59 false (.len false (.t 61)),
        OG 63 59 false (.bin .gtr (.t 62) (.c (I 12))),
        O 64 (.pick (.t 59) (.c (.b true)) (.t 63)),
        O 54 (.mov (.t 64))] [64, 63, 62, 61, 60, 59, 58, 57, 56, 55]) (
      .cond (.t 54) (sq (.reg [
         O 2 (.mov (.c (I 5)))] []) (
       .ret))
       (.skip)))))))))) (
 sq (sq (.reg [
    O 65 (.faddr 8 (.t 1)),
    O 66 (.load K0 (.t 65)),
    O 67 (.len false (.t 66)),
    O 68 (.mov (.c (I 0)))] [65]) (
  .block 1 (
   .loop [1, 66, 67, 68] L111_0))) (
 sq (sq (.reg [
    O 95 (.faddr 8 (.t 1)),
    O 96 (.load K0 (.t 95)),
    O 97 (.call 0 186 [(.t 96)]),
    O 98 (.len false (.t 97)),
    O 99 (.mov (.c (I 0)))] [96, 1, 95]) (
  .block 3 (
   .loop [97, 98, 99] L111_1))) (
 sq (.reg [
   O 2 (.mov (.c (I 0)))] []) (
 .ret)))))⟩
def F182 : PF := ⟨1, [.t 2],
 sq (.reg [
   O 2 (.mov (.c (.b false)))] [2]) (
 sq (.reg [
   O 3 (.mov (.t 0)),
   O 4 (.bin .neq (.t 3) (.c (.s []))),
   O 5 (.mov (.t 4)),
   OG 6 5 true (.mov (.t 0)),
   OG 7 5 true (.call 0 183 [(.t 6), (.c (.i .u8 33)), (.c (I 48))]),
   O 8 (.pick (.t 5) (.t 7) (.c (.b false))),
   O 2 (.mov (.t 8))] [8, 7, 6, 5, 4, 0, 3]) (
 .ret))⟩
def L183_0 : PC :=
 sq (.reg [
   O 11 (.bin .lss (.t 10) (.t 9))] []) (
 sq (.cond (.t 11) (.skip)
   (.exit 0)) (
 sq (.block 1 (
   sq (.reg [
     O 12 (.mov (.t 10)),
     O 7 (.mov (.t 12))] [12]) (
   sq (.reg [
     O 13 (.mov (.t 0)),
     O 14 (.mov (.t 7)),
     O 15 (.idxS (.t 13) (.t 14)),
     O 16 (.mov (.t 1)),
     O 17 (.bin .lss (.t 15) (.t 16)),
     O 18 (.mov (.t 17)),
     OG 19 18 false (.mov (.t 0)),
     OG 20 18 false (.mov (.t 7)),
     OG 21 18 false (.idxS (.t 19) (.t 20)),
     OG 22 18 false (.bin .gtr (.t 21) (.c (.i .u8 126))),
     O 23 (.pick (.t 18) (.c (.b true)) (.t 22))] [22, 21, 20, 19, 18, 17, 16, 15, 7, 14, 13]) (
   .cond (.t 23) (sq (.reg [
      O 6 (.mov (.c (.b false)))] []) (
    .ret))
    (.skip))))) (
 .reg [
  O 24 (.bin .add (.t 10) (.c (I 1))),
  O 10 (.mov (.t 24))] [24])))
def F183 : PF := ⟨3, [.t 6],
 sq (.reg [
   O 6 (.mov (.c (.b false)))] [6]) (
 sq (sq (.reg [
    O 8 (.mov (.t 0)),
    O 9 (.len true (.t 8)),
    O 10 (.mov (.c (I 0)))] [8]) (
  .block 0 (
   .loop [0, 1, 2, 9, 10] L183_0))) (
 sq (.reg [
   O 25 (.mov (.t 0)),
   O 26 (.len true (.t 25)),
   O 27 (.mov (.t 2)),
   O 28 (.bin .leq (.t 26) (.t 27)),
   O 6 (.mov (.t 28))] [28, 2, 27, 26, 0, 25]) (
 .ret)))⟩
def F184 : PF := ⟨1, [.t 2],
 sq (.reg [
   O 2 (.mov (.c (.b false)))] [2]) (
 sq (.reg [
   O 3 (.mov (.t 0)),
   O 4 (.bin .geq (.t 3) (.c (I 0))),
   O 5 (.mov (.t 4)),
   OG 6 5 true (.mov (.t 0)),
   OG 7 5 true (.bin .leq (.t 6) (.c (I 73048))),
   O 8 (.pick (.t 5) (.t 7) (.c (.b false))),
   O 2 (.mov (.t 8))] [8, 7, 6, 5, 4, 0, 3]) (
 .ret))⟩
def L185_0 : PC :=
 sq (.reg [
   O 7 (.bin .lss (.t 6) (.t 5))] []) (
 sq (.cond (.t 7) (.skip)
   (.exit 0)) (
 sq (.block 1 (
   sq (.reg [
     O 8 (.mov (.t 6)),
     O 3 (.mov (.t 8))] [8]) (
   sq (.reg [
     O 9 (.mov (.t 0)),
     O 10 (.mov (.t 3)),
     O 11 (.idxS (.t 9) (.t 10)),
     O 12 (.bin .lss (.t 11) (.c (.i .u8 65))),
     O 13 (.mov (.t 12)),
     OG 14 13 false (.mov (.t 0)),
     OG 15 13 false (.mov (.t 3)),
     OG 16 13 false (.idxS (.t 14) (.t 15)),
     OG 17 13 false (.bin .gtr (.t 16) (.c (.i .u8 90))),
     O 18 (.pick (.t 13) (.c (.b true)) (.t 17))] [17, 16, 15, 14, 13, 12, 11, 3, 10, 9]) (
   .cond (.t 18) (sq (.reg [
      O 2 (.mov (.c (.b false)))] []) (
    .ret))
    (.skip))))) (
 .reg [
  O 19 (.bin .add (.t 6) (.c (I 1))),
  O 6 (.mov (.t 19))] [19])))
def F185 : PF := ⟨1, [.t 2],
 sq (.reg [
   O 2 (.mov (.c (.b false)))] [2]) (
 sq (sq (.reg [
    O 4 (.mov (.t 0)),
    O 5 (.len true (.t 4)),
    O 6 (.mov (.c (I 0)))] [4]) (
  .block 0 (
   .loop [0, 5, 6] L185_0))) (
 sq (.reg [
   O 20 (.mov (.t 0)),
   O 21 (.len true (.t 20)),
   O 22 (.bin .eql (.t 21) (.c (I 3))),
   O 2 (.mov (.t 22))] [22, 21, 0, 20]) (
 .ret)))⟩
def L186_0 : PC :=
 sq (.reg [
   O 11 (.bin .lss (.t 10) (.t 9))] []) (
 sq (.cond (.t 11) (.skip)
   (.exit 0)) (
 sq (.block 1 (
   sq (.reg [
     O 12 (.iaddr (K1 3) (.t 8) (.t 10)),
     O 13 (.load (K1 3) (.t 12)),
     O 5 (.alloc (K1 3) (.a [(I 0), (I 0), (.s [])])),
     E (.store (K1 3) (.t 5) (.t 13))] [13, 12]) (
   sq (.reg [
     O 15 (.mov (.t 3)),
     O 16 (.faddr 2 (.t 5)),
     O 17 (.load K0 (.t 16)),
     O 18 (.call 2 266 [(.t 15), (.t 17), (.f 267)]),
     O 14 (.mov (.t 18)),
     O 19 (.ext (.t 14) 0),
     O 20 (.ext (.t 14) 1),
     O 6 (.mov (.t 19)),
     O 7 (.mov (.t 20))] [20, 19, 14, 18, 17, 16, 15]) (
   sq (sq (.reg [
      O 21 (.mov (.t 7)),
      O 22 (.un .not (.t 21))] [7, 21]) (
    .cond (.t 22) (.reg [
      O 23 (.mov (.t 3)),
      O 24 (.mov (.t 6)),
      O 25 (.faddr 2 (.t 5)),
      O 26 (.load K0 (.t 25)),
      O 27 (.agg [(.s []), (I 0)] [(0, K0, (.t 26))]),
      O 28 (.bsl (K1 2) (.a [(.s []), (I 0)]) 1 [(0, (.t 27))]),
      O 29 (.call 2 269 [(.t 23), (.t 24), (.t 28)]),
      O 3 (.mov (.t 29))] [29, 28, 27, 26, 25, 24, 23])
     (.skip))) (
   .regD [
    O 30 (.mov (.t 3)),
    O 31 (.mov (.t 6)),
    O 32 (.iaddr (K1 2) (.t 30) (.t 31)),
    O 33 (.faddr 1 (.t 32)),
    O 34 (.load K0 (.t 33)),
    O 35 (.faddr 1 (.t 5)),
    O 36 (.load K0 (.t 35)),
    O 37 (.bin .add (.t 34) (.t 36)),
    O 38 (.iaddr (K1 2) (.t 30) (.t 31)),
    O 39 (.faddr 1 (.t 38)),
    E (.store K0 (.t 39) (.t 37))] [0, 0, 3, 7, 15, 0, 32, 127, 255, 511, 1023] [39, 38, 37, 36, 5, 35, 34, 33, 32, 6, 31, 30]))))) (
 .reg [
  O 40 (.bin .add (.t 10) (.c (I 1))),
  O 10 (.mov (.t 40))] [40])))
def F186 : PF := ⟨1, [.t 2],
 sq (.reg [
   O 2 (.mov (.c (.l (K1 2) [] true)))] [2]) (
 sq (.reg [
   O 3 (.mov (.c (.l (K1 2) [] true)))] []) (
 sq (sq (.reg [
    O 8 (.mov (.t 0)),
    O 9 (.len false (.t 8)),
    O 10 (.mov (.c (I 0)))] [0]) (
  .block 0 (
   .loop [3, 8, 9, 10] L186_0))) (
 sq (.reg [
   O 41 (.mov (.t 3)),
   O 2 (.mov (.t 41))] [3, 41]) (
 .ret))))⟩
def L266_0 : PC :=
 sq (sq (.reg [
    O 15 (.mov (.t 9)),
    O 16 (.mov (.t 10)),
    O 17 (.bin .lss (.t 15) (.t 16))] [16, 15]) (
  .cond (.t 17) (.skip)
   (.exit 0))) (
 .block 1 (
  sq (.reg [
    O 18 (.mov (.t 9)),
    O 19 (.mov (.t 10)),
    O 20 (.bin .add (.t 18) (.t 19)),
    O 21 (.conv .u64 (.t 20)),
    O 22 (.bin .shr (.t 21) (.c (.i .u64 1))),
    O 23 (.conv .i64 (.t 22)),
    O 11 (.mov (.t 23))] [23, 22, 21, 20, 19, 18]) (
  sq (.reg [
    O 24 (.mov (.t 2)),
    O 25 (.mov (.t 0)),
    O 26 (.mov (.t 11)),
    O 27 (.iaddr (K1 2) (.t 25) (.t 26)),
    O 28 (.load (K1 2) (.t 27)),
    O 29 (.mov (.t 1)),
    O 30 (.callv (.t 24) [(.t 28), (.t 29)]),
    O 31 (.bin .lss (.t 30) (.c (I 0)))] [30, 29, 28, 27, 26, 25, 24]) (
  .cond (.t 31) (.reg [
    O 32 (.mov (.t 11)),
    O 33 (.bin .add (.t 32) (.c (I 1))),
    O 9 (.mov (.t 33))] [33, 11, 32])
   (.reg [
    O 34 (.mov (.t 11)),
    O 10 (.mov (.t 34))] [11, 34])))))
def F266 : PF := ⟨3, [.t 6, .t 7],
 sq (.reg [
   O 6 (.mov (.c (I 0))),
   O 7 (.mov (.c (.b false)))] [7, 6]) (
 sq (.reg [
   O 12 (.mov (.t 0)),
   O 13 (.len false (.t 12)),
   O 8 (.mov (.t 13))] [13, 12]) (
 sq (.reg [
   O 14 (.mov (.t 8)),
   O 9 (.mov (.c (I 0))),
   O 10 (.mov (.t 14))] [14]) (
 sq (.block 0 (
   .loop [0, 1, 2, 8, 9, 10] L266_0)) (
 sq (.reg [
   O 35 (.mov (.t 9)),
   O 36 (.mov (.t 9)),
   O 37 (.mov (.t 8)),
   O 38 (.bin .lss (.t 36) (.t 37)),
   O 39 (.mov (.t 38)),
   OG 40 39 true (.mov (.t 2)),
   OG 41 39 true (.mov (.t 0)),
   OG 42 39 true (.mov (.t 9)),
   OG 43 39 true (.iaddr (K1 2) (.t 41) (.t 42)),
   OG 44 39 true (.load (K1 2) (.t 43)),
   OG 45 39 true (.mov (.t 1)),
   OG 46 39 true (.callv (.t 40) [(.t 44), (.t 45)]),
   OG 47 39 true (.bin .eql (.t 46) (.c (I 0))),
   O 48 (.pick (.t 39) (.t 47) (.c (.b false))),
   O 6 (.mov (.t 35)),
   O 7 (.mov (.t 48))] [48, 47, 46, 1, 45, 44, 43, 42, 0, 41, 2, 40, 39, 38, 8, 37, 36, 9, 35]) (
 .ret)))))⟩
def F267 : PF := ⟨2, [.t 4],
 sq (.reg [
   O 2 (.box (K1 2) (.t 0)),
   O 4 (.mov (.c (I 0)))] [4, 0]) (
 sq (.reg [
   O 5 (.faddr 0 (.t 2)),
   O 6 (.load K0 (.t 5)),
   O 7 (.mov (.t 1)),
   O 8 (.call 0 268 [(.t 6), (.t 7)]),
   O 4 (.mov (.t 8))] [8, 1, 7, 6, 2, 5]) (
 .ret))⟩
def F517 : PF := ⟨1, [.t 2],
 sq (.reg [
   O 2 (.mov (.c (.s [])))] [2]) (
 sq (sq (.reg [
    O 3 (.mov (.t 0)),
    O 4 (.bin .lss (.t 3) (.c (I 0)))] [3]) (
  .cond (.t 4) (sq (sq (.reg [
      O 5 (.mov (.t 0)),
      O 6 (.bin .gtr (.t 5) (.c (I (-10))))] [5]) (
    .cond (.t 6) (sq (.reg [
       O 7 (.mov (.t 0)),
       O 8 (.un .neg (.t 7)),
       O 9 (.call 0 517 [(.t 8)]),
       O 10 (.bin .add (.c (.s [45])) (.t 9)),
       O 2 (.mov (.t 10))] [10, 9, 8, 0, 7]) (
     .ret))
     (.skip))) (
   sq (.reg [
     O 11 (.mov (.t 0)),
     O 12 (.bin .quo (.t 11) (.c (I 10))),
     O 13 (.call 0 517 [(.t 12)]),
     O 14 (.mov (.t 0)),
     O 15 (.bin .rem (.t 14) (.c (I 10))),
     O 16 (.un .neg (.t 15)),
     O 17 (.call 0 517 [(.t 16)]),
     O 18 (.bin .add (.t 13) (.t 17)),
     O 2 (.mov (.t 18))] [18, 17, 16, 15, 14, 13, 12, 0, 11]) (
   .ret)))
   (.skip))) (
 sq (sq (.reg [
    O 19 (.mov (.t 0)),
    O 20 (.bin .lss (.t 19) (.c (I 10)))] [19]) (
  .cond (.t 20) (sq (.reg [
     O 21 (.mov (.t 0)),
     O 22 (.mov (.t 0)),
     O 23 (.bin .add (.t 22) (.c (I 1))),
     O 24 (.slS (.c (.s [48, 49, 50, 51, 52, 53, 54, 55, 56, 57])) (some (.t 21)) (some (.t 23))),
     O 2 (.mov (.t 24))] [24, 23, 22, 0, 21]) (
   .ret))
   (.skip))) (
 sq (.reg [
   O 25 (.mov (.t 0)),
   O 26 (.bin .quo (.t 25) (.c (I 10))),
   O 27 (.call 0 517 [(.t 26)]),
   O 28 (.mov (.t 0)),
   O 29 (.bin .rem (.t 28) (.c (I 10))),
   O 30 (.call 0 517 [(.t 29)]),
   O 31 (.bin .add (.t 27) (.t 30)),
   O 2 (.mov (.t 31))] [31, 30, 29, 28, 27, 26, 0, 25]) (
 .ret))))⟩
def F607 : PF := ⟨1, [.t 2],
 sq (.reg [
   O 2 (.mov (.c (.b false)))] [2]) (
 sq (.reg [
   O 3 (.mov (.t 0)),
   O 4 (.len true (.t 3)),
   O 5 (.bin .geq (.t 4) (.c (I 1))),
   O 6 (.mov (.t 5)),
   OG 7 6 true (.mov (.t 0)),
   OG 8 6 true (.call 0 685 [(.t 7), (.c (I 48)), (.c (.i .u8 33))]),
   O 9 (.pick (.t 6) (.t 8) (.c (.b false))),
   O 2 (.mov (.t 9))] [9, 8, 7, 6, 5, 4, 0, 3]) (
 .ret))⟩
def L679_0 : PC :=
 sq (sq (.reg [
    O 68 (.mov (.t 3)),
    O 69 (.faddr 8 (.t 1)),
    O 70 (.load K0 (.t 69)),
    O 71 (.len false (.t 70)),
    O 72 (.bin .lss (.t 68) (.t 71))] [71, 70, 69, 68]) (
  .cond (.t 72) (.skip)
   (.exit 0))) (
 sq (.block 1 (
   sq (.reg [
     O 75 (.faddr 8 (.t 1)),
     O 76 (.load K0 (.t 75)),
     O 77 (.mov (.t 3)),
     O 78 (.iaddr (K1 3) (.t 76) (.t 77)),
     O 79 (.load (K1 3) (.t 78)),
     O 80 (.call 0 770 [(.t 79)]),
     O 4 (.mov (.t 80))] [80, 79, 78, 77, 76, 75]) (
   sq (.reg [
     O 81 (.mov (.t 4)),
     O 82 (.bin .neq (.t 81) (.c (I 0)))] [81]) (
   .cond (.t 82) (sq (.reg [
      O 83 (.mov (.t 4)),
      O 2 (.mov (.t 83))] [4, 83]) (
    .ret))
    (.skip))))) (
 .reg [
  O 73 (.mov (.t 3)),
  O 74 (.bin .add (.t 73) (.c (I 1))),
  O 3 (.mov (.t 74))] [74, 73]))
def L679_1 : PC :=
 sq (sq (.reg [
    O 87 (.mov (.t 6)),
    O 88 (.mov (.t 5)),
    O 89 (.len false (.t 88)),
    O 90 (.bin .lss (.t 87) (.t 89))] [89, 88, 87]) (
  .cond (.t 90) (.skip)
   (.exit 2))) (
 sq (.block 3 (
   sq (.reg [
     O 93 (.mov (.t 5)),
     O 94 (.mov (.t 6)),
     O 95 (.iaddr (K1 2) (.t 93) (.t 94)),
     O 96 (.faddr 1 (.t 95)),
     O 97 (.load K0 (.t 96)),
     O 98 (.bin .neq (.t 97) (.c (I 0)))] [97, 96, 95, 94, 93]) (
   .cond (.t 98) (sq (.reg [
      O 2 (.mov (.c (I 15)))] []) (
    .ret))
    (.skip)))) (
 .reg [
  O 91 (.mov (.t 6)),
  O 92 (.bin .add (.t 91) (.c (I 1))),
  O 6 (.mov (.t 92))] [92, 91]))
def F679 : PF := ⟨1, [.t 2],
 sq (.reg [
   O 1 (.box (K1 10) (.t 0)),
   O 2 (.mov (.c (I 0)))] [2, 0]) (
 sq (sq (.reg [
    O 7 (.faddr 6 (.t 1)),
    O 8 (.load K0 (.t 7)),
    O 9 (.call 0 607 [(.t 8)]),
    O 10 (.un .not (.t 9))] [9, 8, 7]) (
  .cond (.t 10) (sq (.reg [
     O 2 (.mov (.c (I 4)))] []) (
   .ret))
   (.skip))) (
 sq (sq (.reg [
    O 11 (.faddr 7 (.t 1)),
    O 12 (.load K0 (.t 11)),
    O 13 (.call 0 685 [(.t 12), (.c (I 64)), (.c (.i .u8 32))]),
    O 14 (.un .not (.t 13)),
    O 15 (.mov (.t 14)),
    OG 16 15 false (.faddr 1 (.t 1)),
    OG 17 15 false (.load K0 (.t 16)),
    OG 18 15 false (.call 0 544 [(.t 17)]),
    OG 19 15 false (.un .not (.t 18)),
    O 20 (.pick (.t 15) (.c (.b true)) (.t 19)),
    O 21 (.mov (.t 20)),
    OG 22 21 false (.faddr 2 (.t 1)),
    OG 23 21 false (.load K0 (.t 22)),
    OG 24 21 false (.call 0 544 [(.t 23)]),
    OG 25 21 false (.un .not (.t 24)),
    O 26 (.pick (.t 21) (.c (.b true)) (.t 25)),
    O 27 (.mov (.t 26)),
    OG 28 27 false (.faddr 3 (.t 1)),
    OG 29 27 false (.load K0 (.t 28)),
    OG 30 27 false (.bin .lss (.t 29) (.c (I 1))),
    O 31 (.pick (.t 27) (.c (.b true)) (.t 30)),
    O 32 (.mov (.t 31)),
    OG 33 32 false (.faddr 3 (.t 1)),
    OG 34 32 false (.load K0 (.t 33)),
    OG 35 32 false (.bin .gtr (.t 34) (.c (I 14))),
    O 36 (.pick (.t 32) (.c (.b true)) (.t 35)),
    O 37 (.mov (.t 36)),
    OG 38 37 false (.faddr 4 (.t 1)),
    OG 39 37 false (.load K0 (.t 38)),
    OG 40 37 false (.bin .lss (.t 39) (.c (I 0))),
    O 41 (.pick (.t 37) (.c (.b true)) (.t 40)),
    O 42 (.mov (.t 41)),
    OG 43 42 false (.faddr 4 (.t 1)),
    OG 44 42 false (.load K0 (.t 43)),
    OG 45 42 false (.bin .gtr (.t 44) (.c (I 3))),
    O 46 (.pick (.t 42) (.c (.b true)) (.t 45)),
    O 47 (.mov (.t 46)),
    OG 48 47 false (.faddr 5 (.t 1)),
    OG 49 47 false (.load K0 (.t 48)),
    OG 50 47 false (.bin .neq (.t 49) (.c (I 0))),
    OG 51 47 false (.mov (.t 50)),
    OG 52 51 true (.faddr 5 (.t 1)),
    OG 53 51 true (.load K0 (.t 52)),
    OG 54 51 true (.call 0 544 [(.t 53)]),
    OG 55 51 true (.un .not (.t 54)),
    OG 56 47 false (.pick (.t 51) (.t 55) (.c (.b false))),
    O 57 (.pick (.t 47) (.c (.b true)) (.t 56))] [56, 55, 54, 53, 52, 51, 50, 49, 48, 47, 46, 45, 44, 43, 42, 41, 40, 39, 38, 37, 36, 35, 34, 33, 32, 31, 30, 29, 28, 27, 26, 25, 24, 23, 22, 21, 20, 19, 18, 17, 16, 15, 14, 13, 12, 11]) (
  .cond (.t 57) (sq (.reg [
     O 2 (.mov (.c (I 1)))] []) (
   .ret))
   (.skip))) (
 sq (sq (.reg [
    O 58 (.faddr 8 (.t 1)),
    O 59 (.load K0 (.t 58)),
    O 60 (.len false (.t 59)),
    O 61 (.bin .lss (.t 60) (.c (I 2))),
    O 62 (.mov (.t 61)),
    OG 63 62 false (.faddr 8 (.t 1)),
    OG 64 62 false (.load K0 (.t 63)),
    OG 65 62 false (.len false (.t 64)),
    OG 66 62 false (.bin .gtr (.t 65) (.c (I 12))),
    O 67 (.pick (.t 62) (.c (.b true)) (.t 66))] [66, 65, 64, 63, 62, 61, 60, 59, 58]) (
  .cond (.t 67) (sq (.reg [
     O 2 (.mov (.c (I 5)))] []) (
   .ret))
   (.skip))) (
 sq (sq (.reg [
    O 3 (.mov (.c (I 0)))] []) (
  .block 0 (
   .loop [1, 3] L679_0))) (
 sq (.reg [
   O 84 (.faddr 8 (.t 1)),
   O 85 (.load K0 (.t 84)),
   O 86 (.call 0 771 [(.t 85)]),
   O 5 (.mov (.t 86))] [86, 85, 1, 84]) (
 sq (sq (.reg [
    O 6 (.mov (.c (I 0)))] []) (
  .block 2 (
   .loop [5, 6] L679_1))) (
 sq (.reg [
   O 2 (.mov (.c (I 0)))] []) (
 .ret))))))))⟩
def L685_0 : PC :=
 sq (sq (.reg [
    O 12 (.mov (.t 7)),
    O 13 (.mov (.t 0)),
    O 14 (.len true (.t 13)),
    O 15 (.bin .lss (.t 12) (.t 14))] [14, 13, 12]) (
  .cond (.t 15) (.skip)
   (.exit 0))) (
 sq (.block 1 (
   sq (.reg [
     O 18 (.mov (.t 0)),
     O 19 (.mov (.t 7)),
     O 20 (.idxS (.t 18) (.t 19)),
     O 21 (.mov (.t 2)),
     O 22 (.bin .lss (.t 20) (.t 21)),
     O 23 (.mov (.t 22)),
     OG 24 23 false (.mov (.t 0)),
     OG 25 23 false (.mov (.t 7)),
     OG 26 23 false (.idxS (.t 24) (.t 25)),
     OG 27 23 false (.bin .gtr (.t 26) (.c (.i .u8 126))),
     O 28 (.pick (.t 23) (.c (.b true)) (.t 27))] [27, 26, 25, 24, 23, 22, 21, 20, 19, 18]) (
   .cond (.t 28) (sq (.reg [
      O 6 (.mov (.c (.b false)))] []) (
    .ret))
    (.skip)))) (
 .reg [
  O 16 (.mov (.t 7)),
  O 17 (.bin .add (.t 16) (.c (I 1))),
  O 7 (.mov (.t 17))] [17, 16]))
def F685 : PF := ⟨3, [.t 6],
 sq (.reg [
   O 6 (.mov (.c (.b false)))] [6]) (
 sq (sq (.reg [
    O 8 (.mov (.t 0)),
    O 9 (.len true (.t 8)),
    O 10 (.mov (.t 1)),
    O 11 (.bin .gtr (.t 9) (.t 10))] [1, 10, 9, 8]) (
  .cond (.t 11) (sq (.reg [
     O 6 (.mov (.c (.b false)))] []) (
   .ret))
   (.skip))) (
 sq (sq (.reg [
    O 7 (.mov (.c (I 0)))] []) (
  .block 0 (
   .loop [0, 2, 7] L685_0))) (
 sq (.reg [
   O 6 (.mov (.c (.b true)))] []) (
 .ret))))⟩
def F770 : PF := ⟨1, [.t 2],
 sq (.reg [
   O 1 (.box (K1 3) (.t 0)),
   O 2 (.mov (.c (I 0)))] [2, 0]) (
 sq (sq (.reg [
    O 3 (.faddr 0 (.t 1)),
    O 4 (.load K0 (.t 3)),
    O 5 (.bin .lss (.t 4) (.c (I 1))),
    O 6 (.mov (.t 5)),
    OG 7 6 false (.faddr 1 (.t 1)),
    OG 8 6 false (.load K0 (.t 7)),
    OG 9 6 false (.bin .eql (.t 8) (.c (I 0))),
    O 10 (.pick (.t 6) (.c (.b true)) (.t 9)),
    O 11 (.mov (.t 10)),
    OG 12 11 false (.faddr 1 (.t 1)),
    OG 13 11 false (.load K0 (.t 12)),
    OG 14 11 false (.bin .lss (.t 13) (.c (I (-1000000000000)))),
    O 15 (.pick (.t 11) (.c (.b true)) (.t 14)),
    O 16 (.mov (.t 15)),
    OG 17 16 false (.faddr 1 (.t 1)),
    OG 18 16 false (.load K0 (.t 17)),
    OG 19 16 false (.bin .gtr (.t 18) (.c (I 1000000000000))),
    O 20 (.pick (.t 16) (.c (.b true)) (.t 19))] [19, 18, 17, 16, 15, 14, 13, 12, 11, 10, 9, 8, 7, 6, 5, 4, 3]) (
  .cond (.t 20) (sq (.reg [
     O 2 (.mov (.c (I 1)))] []) (
   .ret))
   (.skip))) (
 sq (sq (.reg [
    O 21 (.faddr 2 (.t 1)),
    O 22 (.load K0 (.t 21)),
    O 23 (.call 0 861 [(.t 22)]),
    O 24 (.un .not (.t 23))] [23, 22, 1, 21]) (
  .cond (.t 24) (sq (.reg [
     O 2 (.mov (.c (I 14)))] []) (
   .ret))
   (.skip))) (
 sq (.reg [
   O 2 (.mov (.c (I 0)))] []) (
 .ret))))⟩
def L771_0 : PC :=
 sq (sq (.regD [
    O 14 (.mov (.t 6)),
    O 15 (.mov (.t 3)),
    O 16 (.len false (.t 15)),
    O 17 (.bin .lss (.t 14) (.t 16)),
    O 18 (.mov (.t 17)),
    OG 19 18 true (.mov (.t 3)),
    OG 20 18 true (.mov (.t 6)),
    OG 21 18 true (.iaddr (K1 2) (.t 19) (.t 20)),
    OG 22 18 true (.faddr 0 (.t 21)),
    OG 23 18 true (.load K0 (.t 22)),
    OG 24 18 true (.mov (.t 0)),
    OG 25 18 true (.mov (.t 4)),
    OG 26 18 true (.iaddr (K1 3) (.t 24) (.t 25)),
    OG 27 18 true (.faddr 2 (.t 26)),
    OG 28 18 true (.load K0 (.t 27)),
    OG 29 18 true (.bin .lss (.t 23) (.t 28)),
    O 30 (.pick (.t 18) (.t 29) (.c (.b false)))] [0, 0, 2, 7, 15, 31, 31, 127, 255, 511, 31, 31, 3103, 7199, 15391, 32767, 65535] [29, 28, 27, 26, 25, 24, 23, 22, 21, 20, 19, 18, 17, 16, 15, 14]) (
  .cond (.t 30) (.skip)
   (.exit 2))) (
 .block 3 (
  .reg [
   O 31 (.mov (.t 6)),
   O 32 (.bin .add (.t 31) (.c (I 1))),
   O 6 (.mov (.t 32))] [32, 31]))
def L771_1 : PC :=
 sq (sq (.reg [
    O 8 (.mov (.t 4)),
    O 9 (.mov (.t 0)),
    O 10 (.len false (.t 9)),
    O 11 (.bin .lss (.t 8) (.t 10))] [10, 9, 8]) (
  .cond (.t 11) (.skip)
   (.exit 0))) (
 sq (.block 1 (
   sq (.reg [
     O 5 (.mov (.c (.l (K1 2) [] true)))] []) (
   sq (.reg [
     O 6 (.mov (.c (I 0)))] []) (
   sq (.block 2 (
     .loop [0, 3, 4, 5, 6] L771_0)) (
   sq (.reg [
     O 33 (.mov (.t 5)),
     O 34 (.mov (.t 3)),
     O 35 (.mov (.t 6)),
     O 36 (.sl (K1 2) (.t 34) none (some (.t 35)) none),
     O 37 (.app (K1 2) 24 (.t 33) (.t 36)),
     O 5 (.mov (.t 37))] [37, 36, 35, 34, 33]) (
   sq (.reg [
     O 38 (.mov (.t 0)),
     O 39 (.mov (.t 4)),
     O 40 (.iaddr (K1 3) (.t 38) (.t 39)),
     O 41 (.faddr 1 (.t 40)),
     O 42 (.load K0 (.t 41)),
     O 7 (.mov (.t 42))] [42, 41, 40, 39, 38]) (
   sq (sq (.regD [
      O 43 (.mov (.t 6)),
      O 44 (.mov (.t 3)),
      O 45 (.len false (.t 44)),
      O 46 (.bin .lss (.t 43) (.t 45)),
      O 47 (.mov (.t 46)),
      OG 48 47 true (.mov (.t 3)),
      OG 49 47 true (.mov (.t 6)),
      OG 50 47 true (.iaddr (K1 2) (.t 48) (.t 49)),
      OG 51 47 true (.faddr 0 (.t 50)),
      OG 52 47 true (.load K0 (.t 51)),
      OG 53 47 true (.mov (.t 0)),
      OG 54 47 true (.mov (.t 4)),
      OG 55 47 true (.iaddr (K1 3) (.t 53) (.t 54)),
      OG 56 47 true (.faddr 2 (.t 55)),
      OG 57 47 true (.load K0 (.t 56)),
      OG 58 47 true (.bin .eql (.t 52) (.t 57)),
      O 59 (.pick (.t 47) (.t 58) (.c (.b false)))] [0, 0, 2, 7, 15, 31, 31, 127, 255, 511, 31, 31, 3103, 7199, 15391, 32767, 65535] [58, 57, 56, 55, 54, 53, 52, 51, 50, 49, 48, 47, 46, 45, 44, 43]) (
    .cond (.t 59) (sq (.reg [
       O 60 (.mov (.t 7)),
       O 61 (.mov (.t 3)),
       O 62 (.mov (.t 6)),
       O 63 (.iaddr (K1 2) (.t 61) (.t 62)),
       O 64 (.faddr 1 (.t 63)),
       O 65 (.load K0 (.t 64)),
       O 66 (.bin .add (.t 60) (.t 65)),
       O 7 (.mov (.t 66))] [66, 65, 64, 63, 62, 61, 60]) (
     .reg [
      O 67 (.mov (.t 6)),
      O 68 (.bin .add (.t 67) (.c (I 1))),
      O 6 (.mov (.t 68))] [68, 67]))
     (.skip))) (
   sq (.reg [
     O 69 (.mov (.t 5)),
     O 70 (.mov (.t 0)),
     O 71 (.mov (.t 4)),
     O 72 (.iaddr (K1 3) (.t 70) (.t 71)),
     O 73 (.faddr 2 (.t 72)),
     O 74 (.load K0 (.t 73)),
     O 75 (.mov (.t 7)),
     O 76 (.agg [(.s []), (I 0)] [(0, K0, (.t 74)), (1, K0, (.t 75))]),
     O 77 (.bsl (K1 2) (.a [(.s []), (I 0)]) 1 [(0, (.t 76))]),
     O 78 (.app (K1 2) 24 (.t 69) (.t 77)),
     O 5 (.mov (.t 78))] [78, 77, 76, 7, 75, 74, 73, 72, 71, 70, 69]) (
   sq (.reg [
     O 79 (.mov (.t 5)),
     O 80 (.mov (.t 3)),
     O 81 (.mov (.t 6)),
     O 82 (.sl (K1 2) (.t 80) (some (.t 81)) none none),
     O 83 (.app (K1 2) 24 (.t 79) (.t 82)),
     O 5 (.mov (.t 83))] [83, 82, 6, 81, 3, 80, 79]) (
   .reg [
    O 84 (.mov (.t 5)),
    O 3 (.mov (.t 84))] [5, 84])))))))))) (
 .reg [
  O 12 (.mov (.t 4)),
  O 13 (.bin .add (.t 12) (.c (I 1))),
  O 4 (.mov (.t 13))] [13, 12]))
def F771 : PF := ⟨1, [.t 2],
 sq (.reg [
   O 2 (.mov (.c (.l (K1 2) [] true)))] [2]) (
 sq (.reg [
   O 3 (.mov (.c (.l (K1 2) [] true)))] []) (
 sq (sq (.reg [
    O 4 (.mov (.c (I 0)))] []) (
  .block 0 (
   .loop [0, 3, 4] L771_1))) (
 sq (.reg [
   O 85 (.mov (.t 3)),
   O 2 (.mov (.t 85))] [3, 85]) (
 .ret))))⟩
def L861_0 : PC :=
 sq (sq (.reg [
    O 7 (.mov (.t 3)),
    O 8 (.mov (.t 0)),
    O 9 (.len true (.t 8)),
    O 10 (.bin .lss (.t 7) (.t 9))] [9, 8, 7]) (
  .cond (.t 10) (.skip)
   (.exit 0))) (
 sq (.block 1 (
   sq (.reg [
     O 13 (.mov (.t 0)),
     O 14 (.mov (.t 3)),
     O 15 (.idxS (.t 13) (.t 14)),
     O 16 (.bin .lss (.t 15) (.c (.i .u8 65))),
     O 17 (.mov (.t 16)),
     OG 18 17 false (.mov (.t 0)),
     OG 19 17 false (.mov (.t 3)),
     OG 20 17 false (.idxS (.t 18) (.t 19)),
     OG 21 17 false (.bin .gtr (.t 20) (.c (.i .u8 90))),
     O 22 (.pick (.t 17) (.c (.b true)) (.t 21))] [21, 20, 19, 18, 17, 16, 15, 14, 13]) (
   .cond (.t 22) (sq (.reg [
      O 2 (.mov (.c (.b false)))] []) (
    .ret))
    (.skip)))) (
 .reg [
  O 11 (.mov (.t 3)),
  O 12 (.bin .add (.t 11) (.c (I 1))),
  O 3 (.mov (.t 12))] [12, 11]))
def F861 : PF := ⟨1, [.t 2],
 sq (.reg [
   O 2 (.mov (.c (.b false)))] [2]) (
 sq (sq (.reg [
    O 4 (.mov (.t 0)),
    O 5 (.len true (.t 4)),
    O 6 (.bin .neq (.t 5) (.c (I 3)))] [5, 4]) (
  .cond (.t 6) (sq (.reg [
     O 2 (.mov (.c (.b false)))] []) (
   .ret))
   (.skip))) (
 sq (sq (.reg [
    O 3 (.mov (.c (I 0)))] []) (
  .block 0 (
   .loop [0, 3] L861_0))) (
 sq (.reg [
   O 2 (.mov (.c (.b true)))] []) (
 .ret))))⟩
def L1079_0 : PC :=
 sq (sq (.reg [
    O 88 (.mov (.t 9)),
    O 89 (.faddr 67 (.t 1)),
    O 90 (.load K0 (.t 89)),
    O 91 (.len false (.t 90)),
    O 92 (.bin .lss (.t 88) (.t 91))] [91, 90, 89, 88]) (
  .cond (.t 92) (.skip)
   (.exit 0))) (
 sq (.block 1 (
   sq (.reg [
     O 95 (.faddr 67 (.t 1)),
     O 96 (.load K0 (.t 95)),
     O 97 (.mov (.t 9)),
     O 98 (.iaddr (K1 2) (.t 96) (.t 97)),
     O 99 (.faddr 0 (.t 98)),
     O 100 (.load K0 (.t 99)),
     O 101 (.bin .neq (.t 100) (.c (I 5)))] [100, 99, 98, 97, 96, 95]) (
   .cond (.t 101) (.reg [
     O 102 (.mov (.t 8)),
     O 103 (.faddr 67 (.t 1)),
     O 104 (.load K0 (.t 103)),
     O 105 (.mov (.t 9)),
     O 106 (.iaddr (K1 2) (.t 104) (.t 105)),
     O 107 (.faddr 1 (.t 106)),
     O 108 (.load K0 (.t 107)),
     O 109 (.bin .add (.t 102) (.t 108)),
     O 8 (.mov (.t 109))] [109, 108, 107, 106, 105, 104, 103, 102])
    (.skip)))) (
 .reg [
  O 93 (.mov (.t 9)),
  O 94 (.bin .add (.t 93) (.c (I 1))),
  O 9 (.mov (.t 94))] [94, 93]))
def L1079_1 : PC :=
 sq (sq (.reg [
    O 110 (.mov (.t 10)),
    O 111 (.faddr 8 (.t 3)),
    O 112 (.load K0 (.t 111)),
    O 113 (.len false (.t 112)),
    O 114 (.bin .lss (.t 110) (.t 113))] [113, 112, 111, 110]) (
  .cond (.t 114) (.skip)
   (.exit 2))) (
 sq (.block 3 (
   .reg [
    O 117 (.mov (.t 7)),
    O 118 (.faddr 8 (.t 3)),
    O 119 (.load K0 (.t 118)),
    O 120 (.mov (.t 10)),
    O 121 (.iaddr (K1 3) (.t 119) (.t 120)),
    O 122 (.faddr 1 (.t 121)),
    O 123 (.load K0 (.t 122)),
    O 124 (.bin .add (.t 117) (.t 123)),
    O 7 (.mov (.t 124))] [124, 123, 122, 121, 120, 119, 118, 117])) (
 .reg [
  O 115 (.mov (.t 10)),
  O 116 (.bin .add (.t 115) (.c (I 1))),
  O 10 (.mov (.t 116))] [116, 115]))
def L1079_2 : PC :=
 sq (sq (.reg [
    O 125 (.mov (.t 12)),
    O 126 (.faddr 8 (.t 3)),
    O 127 (.load K0 (.t 126)),
    O 128 (.len false (.t 127)),
    O 129 (.bin .lss (.t 125) (.t 128))] [128, 127, 126, 125]) (
  .cond (.t 129) (.skip)
   (.exit 4))) (
 sq (.block 5 (
   .reg [
    O 132 (.mov (.t 11)),
    O 133 (.faddr 8 (.t 3)),
    O 134 (.load K0 (.t 133)),
    O 135 (.mov (.t 12)),
    O 136 (.iaddr (K1 3) (.t 134) (.t 135)),
    O 137 (.faddr 1 (.t 136)),
    O 138 (.load K0 (.t 137)),
    O 139 (.minmax true [(.t 138), (.c (I 0))]),
    O 140 (.bin .add (.t 132) (.t 139)),
    O 11 (.mov (.t 140))] [140, 139, 138, 137, 136, 135, 134, 133, 132])) (
 .reg [
  O 130 (.mov (.t 12)),
  O 131 (.bin .add (.t 130) (.c (I 1))),
  O 12 (.mov (.t 131))] [131, 130]))
def F1079 : PF := ⟨1, [.t 2],
 sq (.reg [
   O 1 (.box (K1 71) (.t 0)),
   O 2 (.mov (.c (.b false)))] [2, 0]) (
 sq (sq (.reg [
    O 13 (.faddr 0 (.t 1)),
    O 14 (.load (K1 42) (.t 13)),
    O 15 (.call 0 77 [(.t 14)]),
    O 16 (.un .not (.t 15)),
    O 17 (.mov (.t 16)),
    OG 18 17 false (.faddr 42 (.t 1)),
    OG 19 17 false (.faddr 23 (.t 18)),
    OG 20 17 false (.load K0 (.t 19)),
    OG 21 17 false (.len false (.t 20)),
    OG 22 17 false (.bin .gtr (.t 21) (.c (I 60))),
    O 23 (.pick (.t 17) (.c (.b true)) (.t 22)),
    O 24 (.mov (.t 23)),
    OG 25 24 false (.faddr 42 (.t 1)),
    OG 26 24 false (.faddr 24 (.t 25)),
    OG 27 24 false (.load K0 (.t 26)),
    OG 28 24 false (.len false (.t 27)),
    OG 29 24 false (.bin .gtr (.t 28) (.c (I 10))),
    O 30 (.pick (.t 24) (.c (.b true)) (.t 29)),
    O 31 (.mov (.t 30)),
    OG 32 31 false (.faddr 67 (.t 1)),
    OG 33 31 false (.load K0 (.t 32)),
    OG 34 31 false (.len false (.t 33)),
    OG 35 31 false (.bin .gtr (.t 34) (.c (I 20))),
    O 36 (.pick (.t 31) (.c (.b true)) (.t 35)),
    O 37 (.mov (.t 36)),
    OG 38 37 false (.faddr 70 (.t 1)),
    OG 39 37 false (.load K0 (.t 38)),
    OG 40 37 false (.len true (.t 39)),
    OG 41 37 false (.bin .gtr (.t 40) (.c (I 100))),
    O 42 (.pick (.t 37) (.c (.b true)) (.t 41))] [41, 40, 39, 38, 37, 36, 35, 34, 33, 32, 31, 30, 29, 28, 27, 26, 25, 24, 23, 22, 21, 20, 19, 18, 17, 16, 15, 14, 13]) (
  .cond (.t 42) (sq (.reg [
     O 43 (.call 0 78 []),
     O 2 (.mov (.t 43))] [43]) (
   .ret))
   (.skip))) (
 sq (.reg [
   O 45 (.faddr 0 (.t 1)),
   O 46 (.load (K1 42) (.t 45)),
   O 47 (.faddr 42 (.t 1)),
   O 48 (.load (K1 25) (.t 47)),
   O 49 (.faddr 67 (.t 1)),
   O 50 (.load K0 (.t 49)),
   O 51 (.faddr 68 (.t 1)),
   O 52 (.load K0 (.t 51)),
   O 53 (.faddr 69 (.t 1)),
   O 54 (.load K0 (.t 53)),
   O 55 (.faddr 70 (.t 1)),
   O 56 (.load K0 (.t 55)),
   O 57 (.call 0 89 [(.t 46), (.t 48), (.t 50), (.t 52), (.t 54), (.t 56)]),
   O 44 (.mov (.t 57)),
   O 58 (.ext (.t 44) 0),
   O 59 (.ext (.t 44) 1),
   O 3 (.alloc (K1 10) (.a [(I 0), (I 0), (I 0), (I 0), (I 0), (I 0), (.s []), (.s []), (.l (K1 3) [] true), (.i .u64 0)])),
   E (.store (K1 10) (.t 3) (.t 58)),
   O 4 (.mov (.t 59))] [59, 58, 44, 57, 56, 55, 54, 53, 52, 51, 50, 49, 48, 47, 46, 45]) (
 sq (.reg [
   O 61 (.faddr 0 (.t 1)),
   O 62 (.load (K1 42) (.t 61)),
   O 63 (.faddr 42 (.t 1)),
   O 64 (.load (K1 25) (.t 63)),
   O 65 (.faddr 67 (.t 1)),
   O 66 (.load K0 (.t 65)),
   O 67 (.faddr 68 (.t 1)),
   O 68 (.load K0 (.t 67)),
   O 69 (.faddr 69 (.t 1)),
   O 70 (.load K0 (.t 69)),
   O 71 (.faddr 70 (.t 1)),
   O 72 (.load K0 (.t 71)),
   O 73 (.call 0 1080 [(.t 62), (.t 64), (.t 66), (.t 68), (.t 70), (.t 72)]),
   O 60 (.mov (.t 73)),
   O 74 (.ext (.t 60) 0),
   O 75 (.ext (.t 60) 1),
   O 5 (.alloc (K1 10) (.a [(I 0), (I 0), (I 0), (I 0), (I 0), (I 0), (.s []), (.s []), (.l (K1 3) [] true), (.i .u64 0)])),
   E (.store (K1 10) (.t 5) (.t 74)),
   O 6 (.mov (.t 75))] [75, 74, 60, 73, 72, 71, 70, 69, 68, 67, 66, 65, 64, 63, 62, 61]) (
 sq (sq (.reg [
    O 76 (.mov (.t 4)),
    O 77 (.mov (.t 6)),
    O 78 (.bin .neq (.t 76) (.t 77)),
    O 79 (.mov (.t 78)),
    OG 80 79 false (.load (K1 10) (.t 3)),
    OG 81 79 false (.load (K1 10) (.t 5)),
    OG 82 79 false (.call 0 9 [(.t 80), (.t 81)]),
    OG 83 79 false (.un .not (.t 82)),
    O 84 (.pick (.t 79) (.c (.b true)) (.t 83))] [83, 82, 5, 81, 80, 79, 78, 6, 77, 76]) (
  .cond (.t 84) (sq (.reg [
     O 2 (.mov (.c (.b false)))] []) (
   .ret))
   (.skip))) (
 sq (sq (.reg [
    O 85 (.mov (.t 4)),
    O 86 (.bin .neq (.t 85) (.c (I 0)))] [4, 85]) (
  .cond (.t 86) (sq (.reg [
     O 87 (.call 0 78 []),
     O 2 (.mov (.t 87))] [87]) (
   .ret))
   (.skip))) (
 sq (.reg [
   O 7 (.mov (.c (I 0))),
   O 8 (.mov (.c (I 0)))] []) (
 sq (sq (.reg [
    O 9 (.mov (.c (I 0)))] []) (
  .block 0 (
   .loop [1, 3, 7, 8, 9] L1079_0))) (
 sq (sq (.reg [
    O 10 (.mov (.c (I 0)))] []) (
  .block 2 (
   .loop [3, 7, 8, 10] L1079_1))) (
 sq (.reg [
   O 11 (.mov (.c (I 0)))] []) (
 sq (sq (.reg [
    O 12 (.mov (.c (I 0)))] []) (
  .block 4 (
   .loop [3, 7, 8, 11, 12] L1079_2))) (
 sq (.reg [
   O 141 (.mov (.t 7)),
   O 142 (.bin .eql (.t 141) (.c (I 0))),
   O 143 (.mov (.t 142)),
   OG 144 143 true (.mov (.t 11)),
   OG 145 143 true (.mov (.t 8)),
   OG 146 143 true (.bin .leq (.t 144) (.t 145)),
   O 147 (.pick (.t 143) (.t 146) (.c (.b false))),
   O 148 (.mov (.t 147)),
   OG 149 148 true (.load (K1 10) (.t 3)),
   OG 150 148 true (.call 0 679 [(.t 149)]),
   OG 151 148 true (.bin .eql (.t 150) (.c (I 0))),
   O 152 (.pick (.t 148) (.t 151) (.c (.b false))),
   O 153 (.mov (.t 152)),
   OG 154 153 true (.call 0 78 []),
   O 155 (.pick (.t 153) (.t 154) (.c (.b false))),
   O 2 (.mov (.t 155))] [155, 154, 153, 152, 151, 150, 3, 149, 148, 147, 146, 8, 145, 11, 144, 143, 142, 7, 141]) (
 .ret))))))))))))⟩
def L1080_0 : PC :=
 sq (sq (.reg [
    O 24 (.mov (.t 16)),
    O 25 (.mov (.t 2)),
    O 26 (.len false (.t 25)),
    O 27 (.bin .lss (.t 24) (.t 26))] [26, 25, 24]) (
  .cond (.t 27) (.skip)
   (.exit 0))) (
 sq (.block 1 (
   sq (.regD [
     O 31 (.faddr 3 (.t 6)),
     O 32 (.faddr 3 (.t 31)),
     O 33 (.load (K1 14) (.t 32)),
     O 34 (.mov (.t 2)),
     O 35 (.mov (.t 16)),
     O 36 (.iaddr (K1 2) (.t 34) (.t 35)),
     O 37 (.faddr 0 (.t 36)),
     O 38 (.load K0 (.t 37)),
     O 39 (.call 0 1081 [(.t 33), (.t 38)]),
     O 30 (.mov (.t 39)),
     O 40 (.ext (.t 30) 0),
     O 41 (.ext (.t 30) 1),
     O 17 (.mov (.t 40)),
     O 18 (.mov (.t 41))] [0, 1, 3, 0, 0, 24, 56, 120, 255, 511, 1023, 1023, 2047, 8191] [41, 40, 30, 39, 38, 37, 36, 35, 34, 33, 32, 31]) (
   sq (sq (.reg [
      O 42 (.mov (.t 18)),
      O 43 (.un .not (.t 42)),
      O 44 (.mov (.t 43)),
      OG 45 44 false (.mov (.t 2)),
      OG 46 44 false (.mov (.t 16)),
      OG 47 44 false (.iaddr (K1 2) (.t 45) (.t 46)),
      OG 48 44 false (.faddr 1 (.t 47)),
      OG 49 44 false (.load K0 (.t 48)),
      OG 50 44 false (.call 0 1082 [(.t 49)]),
      OG 51 44 false (.un .not (.t 50)),
      O 52 (.pick (.t 44) (.c (.b true)) (.t 51))] [51, 50, 49, 48, 47, 46, 45, 44, 43, 18, 42]) (
    .cond (.t 52) (sq (.reg [
       O 53 (.agg [(I 0), (I 0), (I 0), (I 0), (I 0), (I 0), (.s []), (.s []), (.l (K1 3) [] true), (.i .u64 0)] []),
       E (.store (K1 10) (.t 12) (.t 53)),
       O 13 (.mov (.c (I 1)))] [53]) (
     .ret))
     (.skip))) (
   sq (.reg [
     O 54 (.mov (.t 2)),
     O 55 (.mov (.t 16)),
     O 56 (.iaddr (K1 2) (.t 54) (.t 55)),
     O 57 (.faddr 0 (.t 56)),
     O 58 (.load K0 (.t 57)),
     O 59 (.bin .neq (.t 58) (.c (I 5)))] [58, 57, 56, 55, 54]) (
   .cond (.t 59) (sq (.reg [
      O 60 (.mov (.t 14)),
      O 61 (.mov (.t 2)),
      O 62 (.mov (.t 16)),
      O 63 (.iaddr (K1 2) (.t 61) (.t 62)),
      O 64 (.faddr 1 (.t 63)),
      O 65 (.load K0 (.t 64)),
      O 66 (.bin .add (.t 60) (.t 65)),
      O 14 (.mov (.t 66))] [66, 65, 64, 63, 62, 61, 60]) (
    .regD [
     O 67 (.mov (.t 15)),
     O 68 (.mov (.t 17)),
     O 69 (.mov (.t 2)),
     O 70 (.mov (.t 16)),
     O 71 (.iaddr (K1 2) (.t 69) (.t 70)),
     O 72 (.faddr 1 (.t 71)),
     O 73 (.load K0 (.t 72)),
     O 74 (.un .neg (.t 73)),
     O 75 (.faddr 11 (.t 7)),
     O 76 (.faddr 11 (.t 75)),
     O 77 (.load K0 (.t 76)),
     O 78 (.agg [(I 0), (I 0), (.s [])] [(0, K0, (.t 68)), (1, K0, (.t 74)), (2, K0, (.t 77))]),
     O 79 (.bsl (K1 3) (.a [(I 0), (I 0), (.s [])]) 1 [(0, (.t 78))]),
     O 80 (.app (K1 3) 32 (.t 67) (.t 79)),
     O 15 (.mov (.t 80))] [0, 0, 0, 0, 12, 28, 60, 124, 0, 256, 768, 2046, 4094, 8191, 16383] [80, 79, 78, 77, 76, 75, 74, 73, 72, 71, 70, 69, 17, 68, 67]))
    (.skip)))))) (
 .reg [
  O 28 (.mov (.t 16)),
  O 29 (.bin .add (.t 28) (.c (I 1))),
  O 16 (.mov (.t 29))] [29, 28]))
def F1080 : PF := ⟨6, [.c 12 (K1 10), .t 13],
 sq (.reg [
   O 6 (.box (K1 42) (.t 0)),
   O 7 (.box (K1 25) (.t 1)),
   O 12 (.alloc (K1 10) (.a [(I 0), (I 0), (I 0), (I 0), (I 0), (I 0), (.s []), (.s []), (.l (K1 3) [] true), (.i .u64 0)])),
   O 13 (.mov (.c (I 0)))] [13, 1, 0]) (
 sq (sq (.reg [
    O 20 (.mov (.t 2)),
    O 21 (.len false (.t 20)),
    O 22 (.bin .gtr (.t 21) (.c (I 12)))] [21, 20]) (
  .cond (.t 22) (sq (.reg [
     O 23 (.agg [(I 0), (I 0), (I 0), (I 0), (I 0), (I 0), (.s []), (.s []), (.l (K1 3) [] true), (.i .u64 0)] []),
     E (.store (K1 10) (.t 12) (.t 23)),
     O 13 (.mov (.c (I 1)))] [23]) (
   .ret))
   (.skip))) (
 sq (.reg [
   O 14 (.mov (.c (I 0)))] []) (
 sq (.reg [
   O 15 (.mov (.c (.l (K1 3) [] true)))] []) (
 sq (sq (.reg [
    O 16 (.mov (.c (I 0)))] []) (
  .block 0 (
   .loop [2, 3, 4, 5, 6, 7, 12, 14, 15, 16] L1080_0))) (
 sq (.reg [
   O 81 (.mov (.t 15)),
   O 82 (.mov (.t 3)),
   O 83 (.mov (.t 14)),
   O 84 (.faddr 11 (.t 7)),
   O 85 (.faddr 11 (.t 84)),
   O 86 (.load K0 (.t 85)),
   O 87 (.agg [(I 0), (I 0), (.s [])] [(0, K0, (.t 82)), (1, K0, (.t 83)), (2, K0, (.t 86))]),
   O 88 (.bsl (K1 3) (.a [(I 0), (I 0), (.s [])]) 1 [(0, (.t 87))]),
   O 89 (.app (K1 3) 32 (.t 81) (.t 88)),
   O 15 (.mov (.t 89))] [89, 88, 87, 86, 85, 84, 14, 83, 3, 82, 81]) (
 sq (.reg [
   O 90 (.mov (.t 4)),
   O 91 (.mov (.t 4)),
   O 92 (.mov (.t 5)),
   O 93 (.faddr 0 (.t 7)),
   O 94 (.load K0 (.t 93)),
   O 95 (.call 0 517 [(.t 94)]),
   O 96 (.bin .add (.c (.s [108, 111, 97, 110, 32])) (.t 95)),
   O 97 (.mov (.t 15)),
   O 98 (.call 0 1018 [(.t 97)]),
   O 99 (.agg [(I 0), (I 0), (I 0), (I 0), (I 0), (I 0), (.s []), (.s []), (.l (K1 3) [] true), (.i .u64 0)] [(1, K0, (.t 90)), (2, K0, (.t 91)), (3, K0, (.c (I 8))), (6, K0, (.t 92)), (7, K0, (.t 96)), (8, K0, (.t 98))]),
   O 19 (.alloc (K1 10) (.a [(I 0), (I 0), (I 0), (I 0), (I 0), (I 0), (.s []), (.s []), (.l (K1 3) [] true), (.i .u64 0)])),
   E (.store (K1 10) (.t 19) (.t 99))] [99, 98, 15, 97, 96, 95, 94, 7, 93, 5, 92, 91, 4, 90]) (
 sq (sq (.reg [
    O 100 (.load (K1 10) (.t 19)),
    O 101 (.call 0 679 [(.t 100)]),
    O 102 (.bin .neq (.t 101) (.c (I 0)))] [101, 100]) (
  .cond (.t 102) (sq (.reg [
     O 103 (.agg [(I 0), (I 0), (I 0), (I 0), (I 0), (I 0), (.s []), (.s []), (.l (K1 3) [] true), (.i .u64 0)] []),
     E (.store (K1 10) (.t 12) (.t 103)),
     O 13 (.mov (.c (I 1)))] [103]) (
   .ret))
   (.skip))) (
 sq (.reg [
   O 104 (.load (K1 10) (.t 19)),
   E (.store (K1 10) (.t 12) (.t 104)),
   O 13 (.mov (.c (I 0)))] [19, 104]) (
 .ret)))))))))⟩
def F1081 : PF := ⟨2, [.t 4, .t 5],
 sq (.reg [
   O 2 (.box (K1 14) (.t 0)),
   O 4 (.mov (.c (I 0))),
   O 5 (.mov (.c (.b false)))] [5, 4, 0]) (
 sq (sq (.reg [
    O 6 (.mov (.t 1))] []) (
  .block 0 (
   sq (.reg [
     O 8 (.bin .eql (.t 6) (.c (I 1))),
     O 7 (.mov (.t 8))] [8]) (
   .cond (.t 7) (sq (.reg [
      O 9 (.faddr 4 (.t 2)),
      O 10 (.load K0 (.t 9)),
      O 4 (.mov (.t 10)),
      O 5 (.mov (.c (.b true)))] [10, 2, 9]) (
    .ret))
    (sq (.reg [
      O 12 (.bin .eql (.t 6) (.c (I 2))),
      O 11 (.mov (.t 12))] [12]) (
    .cond (.t 11) (sq (.reg [
       O 13 (.faddr 9 (.t 2)),
       O 14 (.load K0 (.t 13)),
       O 4 (.mov (.t 14)),
       O 5 (.mov (.c (.b true)))] [14, 2, 13]) (
     .ret))
     (sq (.reg [
       O 16 (.bin .eql (.t 6) (.c (I 3))),
       O 15 (.mov (.t 16))] [16]) (
     .cond (.t 15) (sq (.reg [
        O 17 (.faddr 8 (.t 2)),
        O 18 (.load K0 (.t 17)),
        O 4 (.mov (.t 18)),
        O 5 (.mov (.c (.b true)))] [18, 2, 17]) (
      .ret))
      (sq (.reg [
        O 20 (.bin .eql (.t 6) (.c (I 4))),
        O 19 (.mov (.t 20))] [6, 20]) (
      .cond (.t 19) (sq (.reg [
         O 21 (.faddr 7 (.t 2)),
         O 22 (.load K0 (.t 21)),
         O 4 (.mov (.t 22)),
         O 5 (.mov (.c (.b true)))] [22, 2, 21]) (
       .ret))
       (.skip))))))))))) (
 sq (.reg [
   O 23 (.mov (.t 1)),
   O 24 (.bin .eql (.t 23) (.c (I 5))),
   O 4 (.mov (.c (I 0))),
   O 5 (.mov (.t 24))] [24, 1, 23]) (
 .ret)))⟩
def F1082 : PF := ⟨1, [.t 2],
 sq (.reg [
   O 2 (.mov (.c (.b false)))] [2]) (
 sq (.reg [
   O 3 (.mov (.t 0)),
   O 4 (.bin .geq (.t 3) (.c (I 0))),
   O 5 (.mov (.t 4)),
   OG 6 5 true (.mov (.t 0)),
   OG 7 5 true (.bin .leq (.t 6) (.c (I 1000000000000))),
   O 8 (.pick (.t 5) (.t 7) (.c (.b false))),
   O 2 (.mov (.t 8))] [8, 7, 6, 5, 4, 0, 3]) (
 .ret))⟩
end Go.Sim
end
section
namespace Go.Sim
end Go.Sim
end
section
open Go.RowKit Go.WideShapes Go.Deep
namespace Go.Sim
inductive Ty where
 | b
 | i (k : IntKind)
 | s
 | e
 | l (k : K) (b : Nat) (ts : List Ty)
def cap47 : Nat := 140737488355328
mutual
inductive XL : DV → Prop
 | mk (es : List DV) : es.length ≤ maxLen → (∀ e ∈ es, XE e) → es.length * 56 ≤ cap47 → XL (.l (some 4) es false)
inductive XE : DV → Prop
 | mk (o n : Int) (s : List UInt8) (a : DV) : (Lit.int .i64 o).wf = true → (Lit.int .i64 n).wf = true → s.length ≤ maxLen → XL a → XE (.a [.i .i64 o, .i .i64 n, .s s, a])
end
mutual
def Has : Ty → DV → Prop
 | .e, x => XL x
 | .b, x => ∃ c, x = .b c
 | .i k, x => ∃ n, x = .i k n ∧ (Lit.int k n).wf = true
 | .s, x => ∃ l, x = .s l ∧ l.length ≤ maxLen
 | .l k b ts, x => ∃ es, x = .l k es false ∧ es.length ≤ maxLen ∧ es.length * b ≤ cap47 ∧ ∀ e ∈ es, ∃ cs, mkD k cs = some e ∧ HasL ts cs
def HasL : List Ty → List DV → Prop
 | [], [] => True
 | t :: ts, x :: xs => Has t x ∧ HasL ts xs
 | _, _ => False
end
def tyFs (P : Program) (rec : TypeId → Option (List Ty)) : List Field → Nat → Nat → Option (List Ty)
 | [], off, n => if off = n then some [] else none
 | f :: fs, off, n => if f.offset ≠ off then none else (rec f.type).bind fun a => if a.length ≠ P.cellsOf f.type then none else (tyFs P rec fs (off + a.length) n).bind fun b => some (a ++ b)
def tyB (P : Program) (u : TypeId) : Option (List Ty) := match P.underlying u with
 | some .bool => some [.b]
 | some (.int k) => some [.i k]
 | some .string => some [.s]
 | _ => none
def isX4 : Option (List Ty) → Bool
 | some [.i .i64, .i .i64, .s, .e] => true
 | _ => false
def exprB (P : Program) (t : TypeId) : Bool := match P.underlying t with
 | some (.slice e) => decide (kq P e = some (some 4)) && (decide (P.cellsOf e = 4 ∧ P.bytesOf e = 56) && match P.underlying e with
  | some (.struct fs) => isX4 (tyFs P (fun u => if u = t then some [.e] else tyB P u) fs.toList 0 4)
  | _ => false)
 | _ => false
def tyOf (P : Program) : Nat → TypeId → Option (List Ty)
 | 0, _ => none
 | n + 1, t => match P.underlying t with
  | some .bool => some [.b]
  | some (.int k) => some [.i k]
  | some .string => some [.s]
  | some (.slice e) => if exprB P t = true then some [.e] else (kq P e).bind fun k => (tyOf P n e).bind fun ts => if ts.length = P.cellsOf e ∧ k.size = ts.length ∧ 0 < ts.length then some [.l k (P.bytesOf e) ts] else none
  | some (.struct fs) => tyFs P (tyOf P n) fs.toList 0 (P.cellsOf t)
  | some (.array m e) => (tyOf P n e).bind fun ts => if ts.length = P.cellsOf e ∧ P.cellsOf t = m * P.cellsOf e then some (List.replicate m ts).flatten else none
  | _ => none
def Live (w : World) : Stab := fun b o => ∃ v, w.cell? ⟨b, o, none⟩ = some v
theorem Live.swf (w : World) : Swf w (Live w) := fun _ _ h => h
def R1 (w : World) (t : Ty) (v : Value) : Prop := flat v ∧ ∃ x, Has t x ∧ RelD w (Live w) x v
def CR (w : World) : List Ty → List Value → Prop
 | [], [] => True
 | t :: ts, v :: vs => R1 w t v ∧ CR w ts vs
 | _, _ => False
theorem CR.append {w : World} : ∀ {ts : List Ty} {vs : List Value} {us : List Ty} {ws : List Value}, CR w ts vs → CR w us ws → CR w (ts ++ us) (vs ++ ws)
 | [], [], _, _, _, k => k
 | _ :: _, _ :: _, _, _, h, k => ⟨h.1, h.2.append k⟩
 | [], _ :: _, _, _, h, _ => h.elim
 | _ :: _, [], _, _, h, _ => h.elim
theorem CR.len {w : World} : ∀ {ts : List Ty} {vs : List Value}, CR w ts vs → ts.length = vs.length
 | [], [], _ => rfl
 | _ :: _, _ :: _, h => by simp [h.2.len]
 | [], _ :: _, h => h.elim
 | _ :: _, [], h => h.elim
theorem CR.flat {w : World} : ∀ {ts : List Ty} {vs : List Value}, CR w ts vs → ∀ v ∈ vs, flat v
 | [], [], _, v, hv => by cases hv
 | _ :: _, _ :: _, h, v, hv => by
  rcases List.mem_cons.1 hv with rfl | hv
  ·exact h.1.1
  ·exact h.2.flat v hv
 | [], _ :: _, h, _, _ => h.elim
 | _ :: _, [], h, _, _ => h.elim
theorem CR.data {w : World} : ∀ {ts : List Ty} {vs : List Value}, CR w ts vs → ∃ xs, HasL ts xs ∧ xs.length = vs.length ∧ ∀ j (h : j < xs.length) (h' : j < vs.length), RelD w (Live w) xs[j] vs[j]
 | [], [], _ => ⟨[], by simp [HasL], rfl, fun j h => by cases h⟩
 | _ :: _, _ :: _, h => by
  obtain ⟨xs, h1, h2, h3⟩ := h.2.data
  obtain ⟨-, x, h4, h5⟩ := h.1
  refine ⟨x :: xs, by rw [HasL]; exact ⟨h4, h1⟩, by simp [h2], ?_⟩
  intro j hj hj'
  cases j with
  | zero => exact h5
  | succ j => exact h3 j _ _
 | [], _ :: _, h => h.elim
 | _ :: _, [], h => h.elim
theorem CR.val {w : World} {ts : List Ty} {vs : List Value} (h : CR w ts vs) {k : K} (hk : k.size = ts.length) (c : Nat → Value) (hc : ∀ m (h : m < vs.length), c m = vs[m]) :
  ∃ xs e, mkD k xs = some e ∧ HasL ts xs ∧ RelD w (Live w) e (mkV k c) := by
 obtain ⟨xs, h1, h2, h3⟩ := h.data
 have hl := h.len
 cases k with
 | none =>
  simp only [K.size] at hk
  match xs, vs, h2 with
  | [x], [v], _ =>
   refine ⟨[x], x, rfl, h1, ?_⟩
   have := h3 0 (by simp) (by simp)
   simp only [mkV]
   rw [hc 0 (by simp)]
   exact this
  | [], [], _ => simp at hl; subst hl; simp at hk
  | _ :: _ :: _, vs, e => rw [← hl, ← hk] at e; simp at e
 | some n =>
  simp only [K.size] at hk
  have e : (List.range n).map c = vs := by
   apply List.ext_getElem
   ·simp; omega
   ·intro m hm hm'
    simp [hc m hm']
  refine ⟨xs, .a xs, by simp [mkD]; omega, h1, ?_⟩
  simp only [mkV, e]
  exact .a xs vs h2 h.flat h3
section
variable {H : Type} {enc : TypeId × Value → H} {P : Program} {w : World} {sp : Nat → Bool} {held : Bool}
def Wts (P : Program) (t : TypeId) (d : DataW H) : Prop := ∀ n ∈ d.weights P t, n ≤ reachBytes
theorem wts_all {e : TypeId} : ∀ {l : List (DataW H)}, (∀ n ∈ DataW.weightsAll P e l, n ≤ reachBytes) → ∀ d ∈ l, Wts P e d
 | [], _, d, hd => by cases hd
 | x :: r, h, d, hd => by
  simp only [DataW.weightsAll, List.mem_append] at h
  rcases List.mem_cons.1 hd with rfl | hd
  ·exact fun n hn => h n (.inl hn)
  ·exact wts_all (fun n hn => h n (.inr hn)) d hd
theorem wts_each : ∀ {ts : List TypeId} {l : List (DataW H)}, (∀ n ∈ DataW.weightsEach P ts l, n ≤ reachBytes) → ∀ i (h : i < ts.length) (h' : i < l.length), Wts P ts[i] l[i]
 | [], _, _, i, h, _ => by cases h
 | _ :: _, [], _, i, _, h' => by cases h'
 | t :: ts, d :: r, h, i, hi, hi' => by
  simp only [DataW.weightsEach, List.mem_append] at h
  cases i with
  | zero => exact fun n hn => h n (.inl hn)
  | succ i => exact wts_each (fun n hn => h n (.inr hn)) i (by simpa using hi) (by simpa using hi')
theorem wts_slice {t e : TypeId} {el sl : List (DataW H)} (hu : P.underlying t = some (.slice e)) (h : Wts P t (.slice el sl)) : el.length * P.bytesOf e ≤ reachBytes ∧ ∀ d ∈ el, Wts P e d := by
 unfold Wts at h
 simp only [DataW.weights, hu, List.mem_cons, List.mem_append] at h
 refine ⟨Nat.le_trans (Nat.mul_le_mul_right _ (Nat.le_add_right _ _)) (h _ (.inl rfl)), fun d hd => wts_all (fun n hn => h n (.inr (.inl hn))) d hd⟩
theorem wts_struct {t : TypeId} {fs : Array Field} {l : List (DataW H)} (hu : P.underlying t = some (.struct fs)) (h : Wts P t (.agg l)) (i : Nat) (hi : i < fs.size) (hi' : i < l.length) : Wts P fs[i].type l[i] := by
 unfold Wts at h
 simp only [DataW.weights, hu] at h
 have := wts_each h i (by simpa using hi) hi'
 simpa using this
theorem wts_array {t e : TypeId} {m : Nat} {l : List (DataW H)} (hu : P.underlying t = some (.array m e)) (h : Wts P t (.agg l)) : ∀ d ∈ l, Wts P e d := by
 unfold Wts at h
 simp only [DataW.weights, hu] at h
 exact wts_all h
theorem cr_struct {rec : TypeId → Option (List Ty)} {cs : List Value} {n : Nat} (hn : cs.length = n) : ∀ (fs : List Field) (off : Nat) (ts : List Ty), off ≤ n → tyFs P rec fs off n = some ts →
  (∀ f ∈ fs, ∀ ts', rec f.type = some ts' → CR w ts' ((cs.drop f.offset).take (P.cellsOf f.type))) → CR w ts (cs.drop off)
 | [], off, ts, ho, h, _ => by
  simp only [tyFs] at h
  split at h
  ·cases h
   rw [List.drop_eq_nil_iff.2 (by omega)]
   trivial
  ·cases h
 | f :: fs, off, ts, ho, h, hf => by
  simp only [tyFs] at h
  split at h
  ·cases h
  rename_i h1
  have h1 : f.offset = off := by simpa using h1
  obtain ⟨a, ha, h⟩ := Option.bind_eq_some_iff.1 h
  split at h
  ·cases h
  rename_i h2
  have h2 : a.length = P.cellsOf f.type := by simpa using h2
  obtain ⟨b, hb, h⟩ := Option.bind_eq_some_iff.1 h
  cases h
  have k1 := hf f (List.mem_cons_self ..) a ha
  have k1l := k1.len
  rw [h1, ← h2] at k1
  have hle : off + a.length ≤ n := by
   rw [List.length_take, List.length_drop, h1] at k1l; omega
  have k2 := cr_struct hn fs (off + a.length) b hle hb (fun g hg => hf g (List.mem_cons_of_mem _ hg))
  have := k1.append k2
  rwa [← List.drop_drop, List.take_append_drop] at this
theorem cr_array {cs : List Value} {c : Nat} {ts : List Ty} (ht : ts.length = c) : ∀ (m i : Nat), cs.length = (i + m) * c → (∀ j, i ≤ j → j < i + m → CR w ts ((cs.drop (j * c)).take c)) → CR w (List.replicate m ts).flatten (cs.drop (i * c))
 | 0, i, hl, _ => by
  rw [List.drop_eq_nil_iff.2 (by rw [hl]; simp)]
  trivial
 | m + 1, i, hl, h => by
  have k1 := h i (Nat.le_refl _) (by omega)
  have k2 := cr_array ht m (i + 1) (by rw [hl]; congr 1; omega) (fun j hj hj' => h j (by omega) (by omega))
  have := k1.append k2
  rw [Nat.succ_mul, ← List.drop_drop, List.take_append_drop] at this
  simpa [List.replicate_succ] using this
theorem cr_slice {t e : TypeId} {fuel : Nat} {cs : List Value} {x : DataW H × List MemPlace} {k : K} {c : Nat} {Pe : DV → Prop} (hu : P.underlying t = some (.slice e)) (hd : DataW.trod enc P w 0 sp held fuel t cs = some x) (hc1 : c = P.cellsOf e) (hc2 : k.size = c) (hc3 : 0 < c) (hw : Wts P t x.1)
  (hel : ∀ n cs' x', n < fuel → DataW.trod enc P w 0 sp held n e cs' = some x' → Wts P e x'.1 → ∃ us, us.length = c ∧ CR w us cs' ∧ ∀ xs ee, mkD k xs = some ee → HasL us xs → Pe ee) :
  ∃ v E, cs = [v] ∧ flat v ∧ RelD w (Live w) (.l k E false) v ∧ E.length ≤ maxLen ∧ E.length * P.bytesOf e ≤ cap47 ∧ ∀ e ∈ E, Pe e := by
 rcases DataW.trod_slice hu hd with ⟨rfl, -⟩ | ⟨a, len, cap, elems, rest, n, rfl, rfl, hxe, hb, hl, hm, hlen, hx, -, -⟩
 ·refine ⟨_, [], rfl, rfl, ?_, by simp, by simp, fun e he => by cases he⟩
  exact .l k [] false none 0 0 0 (fun _ _ => .bool false) (Nat.le_refl _) (fun h => by cases h) (fun h => by cases h) (fun j h => by cases h) (fun j h => by cases h)
 ·rw [hxe] at hw
  obtain ⟨hw1, hw2⟩ := wts_slice hu hw
  have hs : ∀ i, i < len → ∃ V : (Nat → Value) × DV, (∀ q, q < k.size → w.cell? (a.add (i * P.cellsOf e + q)) = some (V.1 q) ∧ flat (V.1 q)) ∧ Pe V.2 ∧ RelD w (Live w) V.2 (mkV k V.1) := by
   intro i hi
   have h0 := hx i hi
   rw [List.getElem?_eq_getElem (by omega)] at h0
   obtain ⟨cs', h1, h2⟩ := Option.bind_eq_some_iff.1 h0
   obtain ⟨us, hus, h3, hpe⟩ := hel n cs' _ (Nat.lt_succ_self n) h2 (hw2 _ (List.mem_map.2 ⟨_, List.getElem_mem _, rfl⟩))
   obtain ⟨-, h4, h5⟩ := World.cells?_some h1
   obtain ⟨xs, ee, e1, e2, e3⟩ := h3.val (k := k) (by omega) (fun q => cs'.getD q (.bool false)) (fun q hq => by simp [hq])
   have hul := h3.len
   refine ⟨(fun q => cs'.getD q (.bool false), ee), ?_, hpe xs ee e1 e2, e3⟩
   intro q hq
   have hq' : q < cs'.length := by omega
   have h6 := h5 q (by omega)
   rw [List.getElem?_eq_getElem hq'] at h6
   have e7 : (cs'.getD q (.bool false)) = cs'[q] := by simp [hq']
   refine ⟨?_, ?_⟩
   ·rw [show (a.add (i * P.cellsOf e + q)) = (a.add (i * P.cellsOf e)).add q by by_cases g1 : i * P.cellsOf e = 0 <;> by_cases g2 : q = 0 <;> simp [Addr.add, g1, g2, Nat.add_assoc]]
    simp only [e7]; exact h6
   ·show flat (cs'.getD q (.bool false))
    rw [e7]; exact h3.flat _ (List.getElem_mem _)
  have : Inhabited ((Nat → Value) × DV) := ⟨(fun _ => .bool false, .np)⟩
  obtain ⟨V, hV⟩ := choose_lt hs
  obtain ⟨E, hE, hEV⟩ : ∃ E : List DV, E.length = len ∧ ∀ i (h : i < E.length), E[i] = (V i).2 := ⟨(List.range len).map fun i => (V i).2, by simp, fun i h => by simp⟩
  subst hE
  have hk0 : 0 < k.size := by omega
  have sp0 : ∀ j, j < E.length → a.spot = none := by
   intro j hj
   have := World.cell?_spot ((hV 0 (by omega)).1 0 hk0).1
   simpa [Addr.add] using this
  refine ⟨_, E, rfl, rfl, ?_, by omega, by simp only [List.length_map, hlen] at hw1; unfold cap47; unfold reachBytes at hw1; omega, ?_⟩
  ·refine RelD.l (w := w) (S := Live w) k E false (some a) cap a.block a.off (fun j => (V j).1) hl (fun h => by cases h) ?_ ?_ ?_
   ·intro h0
    have := sp0 0 h0
    cases a; simp_all
   ·intro j hj q hq
    obtain ⟨g1, g2⟩ := (hV j hj).1 q hq
    have hs0 := sp0 j hj
    have e8 : a.add (j * P.cellsOf e + q) = ⟨a.block, a.off + j * k.size + q, none⟩ := by
     rw [← hc1, ← hc2]
     obtain ⟨ab, ao, as0⟩ := a
     simp only at hs0
     subst hs0
     by_cases g : j * k.size + q = 0 <;> simp [Addr.add, g, Nat.add_assoc]
     omega
    rw [e8] at g1
    exact ⟨g1, ⟨_, g1⟩, g2⟩
   ·intro j hj
    rw [hEV j hj]
    exact (hV j hj).2.2
  ·intro ee he
   obtain ⟨i, hi, rfl⟩ := List.getElem_of_mem he
   rw [hEV i hi]
   exact (hV i hi).2.1
theorem cr_base {u : TypeId} {fuel : Nat} {cs : List Value} {x : DataW H × List MemPlace} {ts : List Ty} (hd : DataW.trod enc P w 0 sp held fuel u cs = some x) (h : tyB P u = some ts) : CR w ts cs := by
 unfold tyB at h
 split at h
 ·rename_i hu
  cases h
  obtain ⟨b, rfl, -⟩ := DataW.trod_bool hu hd
  exact ⟨⟨rfl, .b b, by simp [Has], .b b⟩, trivial⟩
 ·rename_i k hu
  cases h
  obtain ⟨m, rfl, -, hw⟩ := DataW.trod_int hu hd
  exact ⟨⟨rfl, .i k m, by simp [Has, hw], .i k m⟩, trivial⟩
 ·rename_i hu
  cases h
  obtain ⟨s, rfl, -, hs⟩ := DataW.trod_string hu hd
  exact ⟨⟨rfl, .s s.data.toList, by simpa [Has] using hs, .s _ s rfl⟩, trivial⟩
 ·cases h
theorem xe_of {xs : List DV} {ee : DV} (h1 : mkD (some 4) xs = some ee) (h2 : HasL [.i .i64, .i .i64, .s, .e] xs) : XE ee := by
 match xs, h2 with
 | [x1, x2, x3, x4], h2 =>
  simp only [HasL, Has, and_true] at h2
  obtain ⟨⟨o, rfl, ho⟩, ⟨n, rfl, hn⟩, ⟨s, rfl, hs⟩, h4⟩ := h2
  simp only [mkD, List.length_cons, List.length_nil, if_true, Option.some.injEq] at h1
  subst h1
  exact .mk o n s x4 ho hn hs h4
 | [], h2 => simp [HasL] at h2
 | [_], h2 => simp [HasL] at h2
 | [_, _], h2 => simp [HasL] at h2
 | [_, _, _], h2 => simp [HasL] at h2
 | _ :: _ :: _ :: _ :: _ :: _, h2 => simp [HasL] at h2
theorem xl_of {t : TypeId} (ht : exprB P t = true) : ∀ (m fuel : Nat) (cs : List Value) (x : DataW H × List MemPlace), fuel ≤ m → DataW.trod enc P w 0 sp held fuel t cs = some x → Wts P t x.1 → CR w [.e] cs := by
 have ht0 := ht
 unfold exprB at ht
 split at ht
 case h_2 => cases ht
 rename_i e hu
 simp only [Bool.and_eq_true, decide_eq_true_eq] at ht
 obtain ⟨hk, ⟨hc, hb⟩, ht⟩ := ht
 split at ht
 case h_2 => cases ht
 rename_i fs hf
 obtain ⟨ts, hts, h4⟩ : ∃ ts, tyFs P (fun u => if u = t then some [.e] else tyB P u) fs.toList 0 4 = some ts ∧ ts = [.i .i64, .i .i64, .s, .e] := by
  unfold isX4 at ht
  split at ht
  ·rename_i hq; exact ⟨_, hq, rfl⟩
  ·cases ht
 subst h4
 intro m
 induction m with
 | zero =>
  intro fuel cs x hm hd _
  obtain rfl : fuel = 0 := by omega
  simp [DataW.trod] at hd
 | succ m ih =>
  intro fuel cs x hm hd hw
  obtain ⟨v, E, rfl, hfl, hr, hlen, hlb, hE⟩ := cr_slice (k := some 4) (c := 4) (Pe := XE) hu hd hc.symm rfl (by decide) hw (fun n cs' x' hn hd' hw' => by
   refine ⟨_, rfl, ?_, fun xs ee h1 h2 => xe_of h1 h2⟩
   obtain ⟨xs, n', rfl, hxe, hl, hl2, hx⟩ := DataW.trod_struct hf hd'
   rw [hxe] at hw'
   have := cr_struct (P := P) (w := w) (rec := fun u => if u = t then some [.e] else tyB P u) (hl.trans hc) fs.toList 0 _ (Nat.zero_le _) hts (fun f hf' ts' hts' => by
    obtain ⟨i, hi, rfl⟩ := List.getElem_of_mem hf'
    have hi' : i < fs.size := by simpa using hi
    have h5 := hx i fs[i] (by simp [hi'])
    rw [List.getElem?_eq_getElem (by omega)] at h5
    simp only [Array.getElem_toList] at hts' ⊢
    split at hts'
    ·rename_i hft
     cases hts'
     rw [hft] at h5 ⊢
     exact ih n' _ _ (by omega) h5 (by have := wts_struct hf hw' i hi' (by simp; omega); rw [hft] at this; simpa using this)
    ·exact cr_base h5 hts')
   simpa using this)
  exact ⟨⟨hfl, _, by rw [Has]; exact .mk E hlen hE (by rw [← hb]; exact hlb), hr⟩, trivial⟩
theorem cr_of (n : Nat) : ∀ {fuel : Nat} {t : TypeId} {cs : List Value} {x : DataW H × List MemPlace} {ts : List Ty}, DataW.trod enc P w 0 sp held fuel t cs = some x → Wts P t x.1 → tyOf P n t = some ts → CR w ts cs := by
 induction n with
 | zero => intro fuel t cs x ts _ _ h; cases h
 | succ n ih =>
  intro fuel t cs x ts hd hw h
  simp only [tyOf] at h
  split at h
  ·rename_i hu
   cases h
   obtain ⟨b, rfl, -⟩ := DataW.trod_bool hu hd
   exact ⟨⟨rfl, .b b, by simp [Has], .b b⟩, trivial⟩
  ·rename_i k hu
   cases h
   obtain ⟨m, rfl, -, hw⟩ := DataW.trod_int hu hd
   exact ⟨⟨rfl, .i k m, by simp [Has, hw], .i k m⟩, trivial⟩
  ·rename_i hu
   cases h
   obtain ⟨s, rfl, -, hs⟩ := DataW.trod_string hu hd
   exact ⟨⟨rfl, .s s.data.toList, by simpa [Has] using hs, .s _ s rfl⟩, trivial⟩
  ·rename_i e hu
   split at h
   ·rename_i hX
    cases h
    exact xl_of hX fuel fuel cs x (Nat.le_refl _) hd hw
   obtain ⟨k, hk, h⟩ := Option.bind_eq_some_iff.1 h
   obtain ⟨us, hus, h⟩ := Option.bind_eq_some_iff.1 h
   split at h
   ·rename_i hc
    cases h
    obtain ⟨hc1, hc2, hc3⟩ := hc
    obtain ⟨v, E, rfl, hfl, hr, hlen, hlb, hE⟩ := cr_slice (k := k) (c := us.length) (Pe := fun ee => ∃ cs, mkD k cs = some ee ∧ HasL us cs) hu hd hc1 hc2 hc3 hw (fun n' cs' x' _ hd' hw' => ⟨us, rfl, ih hd' hw' hus, fun xs ee h1 h2 => ⟨xs, h1, h2⟩⟩)
    refine ⟨⟨hfl, _, ?_, hr⟩, trivial⟩
    rw [Has]
    exact ⟨E, rfl, hlen, hlb, hE⟩
   ·cases h
  ·rename_i fs hu
   obtain ⟨xs, m, -, hxe, hl, hl2, hx⟩ := DataW.trod_struct hu hd
   rw [hxe] at hw
   have := cr_struct (P := P) (w := w) (rec := tyOf P n) hl fs.toList 0 ts (Nat.zero_le _) h (fun f hf ts' hts => by
    obtain ⟨i, hi, rfl⟩ := List.getElem_of_mem hf
    have hi' : i < fs.size := by simpa using hi
    have := hx i fs[i] (by simp [hi'])
    rw [List.getElem?_eq_getElem (by omega)] at this
    simpa using ih this (by have := wts_struct hu hw i hi' (by simp; omega); simpa using this) hts)
   simpa using this
  ·rename_i m e hu
   obtain ⟨us, hus, h⟩ := Option.bind_eq_some_iff.1 h
   split at h
   ·rename_i hc
    cases h
    obtain ⟨xs, m', -, hxe, hl, hl2, hx⟩ := DataW.trod_array hu hd
    rw [hxe] at hw
    have := cr_array (w := w) (cs := cs) hc.1 m 0 (by rw [hl, hc.2]; simp) (fun j _ hj => by
     have := hx j (by omega)
     rw [List.getElem?_eq_getElem (by omega)] at this
     exact ih this (wts_array hu hw _ (List.mem_map.2 ⟨_, List.getElem_mem _, rfl⟩)) hus)
    simpa using this
   ·cases h
  ·cases h
end
end Go.Sim
end
section
open Go.RowKit
namespace Go.Sim
section
variable {P : Program} {W : World}
theorem laidVars_get {n : String} {d : DataW Unit} : ∀ {l : List (String × DataW Unit)} {ps : List MemPlace}, DataW.LaidVars P W l ps → (n, d) ∈ l →
  ∃ g t cs fuel p, P.globalNamed n = some g ∧ (P.globals[g]?).map (·.type) = some t ∧ W.var? P n = some cs ∧ DataW.trod (fun _ => ()) P W 0 (fun _ => true) false fuel t cs.toList = some (d, p) ∧ ∀ x ∈ MemPlace.row ⟨g, 0, none⟩ cs.size, x ∈ ps
 | [], _, _, h => by cases h
 | (m, e) :: r, ps, h, hm => by
  obtain ⟨g, t, cs, fuel, p, q, h1, h2, h3, h4, h5, rfl⟩ := h
  rcases List.mem_cons.1 hm with h | h
  ·cases h
   exact ⟨g, t, cs, fuel, p, h1, h2, h3, h4, fun x hx => List.mem_append_left _ (List.mem_append_left _ hx)⟩
  ·obtain ⟨g', t', cs', fuel', p', a1, a2, a3, a4, a5⟩ := laidVars_get h5 h
   exact ⟨g', t', cs', fuel', p', a1, a2, a3, a4, fun x hx => List.mem_append_right _ (a5 x hx)⟩
theorem laid_block {laid : List (String × DataW Unit)} (h : laidMet P laid W) {n : String} {d : DataW Unit} (hm : (n, d) ∈ laid) {g : Nat} (hg : P.globalNamed n = some g) {t : TypeId} (ht : (P.globals[g]?).map (·.type) = some t) :
  ∃ (cs : Array Value) (fuel : Nat) (p : List MemPlace), DataW.trod (fun _ => ()) P W 0 (fun _ => true) false fuel t cs.toList = some (d, p) ∧ (0 < cs.size → ∃ e, W.shape? g = some (e, cs.size)) ∧ ∀ j (hj : j < cs.size), W.cell? ⟨g, j, none⟩ = some cs[j] := by
 obtain ⟨ps, h1, -, h3⟩ := h
 obtain ⟨g', t', cs, fuel, p, a1, a2, a3, a4, a5⟩ := laidVars_get h1 hm
 obtain rfl := Option.some.inj (hg.symm.trans a1)
 obtain rfl := Option.some.inj (ht.symm.trans a2)
 have hheap : ∃ e fz, W.heap[g]? = some (.cells cs e fz) := by
  unfold World.var? at a3
  rw [hg] at a3
  simp only [Option.bind_some] at a3
  split at a3
  ·rename_i cs' e fz hw
   cases a3
   exact ⟨e, fz, hw⟩
  ·cases a3
 obtain ⟨e, fz, hw⟩ := hheap
 refine ⟨cs, fuel, p, a4, ?_, ?_⟩
 ·intro hp
  obtain ⟨⟨c, u, hc⟩, -⟩ := h3 g 0 (a5 _ (by unfold MemPlace.row; exact List.mem_map.2 ⟨0, List.mem_range.2 hp, rfl⟩))
  rw [hw] at hc
  cases hc
  exact ⟨e, by simp [World.shape?, hw]⟩
 ·intro j hj
  simp [World.cell?, hw, hj]
theorem gok_cells {S : Stab} (hS : S = Live W) {g : Nat} {zs : List (IntKind × Int)} (hz : 0 < zs.length) {cs : Array Value} (hl : cs.toList = zs.map fun z => Value.int z.1 z.2) (hs : 0 < cs.size → ∃ e, W.shape? g = some (e, cs.size)) (hc : ∀ j (hj : j < cs.size), W.cell? ⟨g, j, none⟩ = some cs[j]) :
  (∃ e, W.shape? g = some (e, zs.length)) ∧ ∃ f, At W S g 0 zs.length f ∧ RelD W S (.a (zs.map fun z => .i z.1 z.2)) (mkV (some zs.length) f) := by
 subst hS
 have hn : cs.size = zs.length := by rw [← Array.length_toList, hl, List.length_map]
 have hget : ∀ j (hj : j < zs.length), cs[j]'(by omega) = .int zs[j].1 zs[j].2 := fun j hj => by
  have h1 : cs.toList[j]'(by rw [Array.length_toList]; omega) = cs[j]'(by omega) := Array.getElem_toList _
  rw [← h1]
  simp only [hl, List.getElem_map]
 refine ⟨?_, fun j => cs.getD j (.bool false), ?_, ?_⟩
 ·obtain ⟨e, he⟩ := hs (by omega)
  exact ⟨e, by rw [he, hn]⟩
 ·intro j hj
  have h1 := hc j (by omega)
  have h2 : cs.getD j (.bool false) = cs[j]'(by omega) := by simp [Array.getD, show j < cs.size by omega]
  refine ⟨by rw [Nat.zero_add]; show _ = some (cs.getD j (.bool false)); rw [h2]; exact h1, ⟨_, by rw [Nat.zero_add]; exact h1⟩, ?_⟩
  show flat (cs.getD j (.bool false))
  rw [h2, hget j hj]; rfl
 ·simp only [mkV]
  refine RelD.a _ _ (by simp) ?_ ?_
  ·intro v hv
   obtain ⟨j, hj, rfl⟩ := List.mem_map.1 hv
   have hj := List.mem_range.1 hj
   have h2 : cs.getD j (.bool false) = cs[j]'(by omega) := by simp [Array.getD, show j < cs.size by omega]
   show flat (cs.getD j (.bool false))
   rw [h2, hget j hj]; rfl
  ·intro j hj hj'
   simp only [List.length_map] at hj
   simp only [List.getElem_map, List.getElem_range]
   have h2 : cs.getD j (.bool false) = cs[j]'(by omega) := by simp [Array.getD, show j < cs.size by omega]
   rw [h2, hget j hj]
   exact .i _ _
theorem gok_ints {laid : List (String × DataW Unit)} (h : laidMet P laid W) {n : String} {k : IntKind} {zs : List Int} (hm : (n, .agg (zs.map fun z => .lit (.int k z))) ∈ laid) {g : Nat} (hg : P.globalNamed n = some g) {t : TypeId} (ht : (P.globals[g]?).map (·.type) = some t)
  {m : Nat} {e : TypeId} (hu : P.underlying t = some (.array m e)) (he : P.underlying e = some (.int k)) (hc : P.cellsOf e = 1) (hct : P.cellsOf t = m) (hz : 0 < zs.length) :
  (∃ e, W.shape? g = some (e, zs.length)) ∧ ∃ f, At W (Live W) g 0 zs.length f ∧ RelD W (Live W) (.a (zs.map fun z => .i k z)) (mkV (some zs.length) f) := by
 obtain ⟨cs, fuel, p, h1, h2, h3⟩ := laid_block h hm hg ht
 obtain ⟨xs, m', rfl, hx, hl, hxl, hel⟩ := DataW.trod_array hu h1
 simp only [Prod.mk.injEq, DataW.agg.injEq] at hx
 have hzl : zs.length = m := by
  have := congrArg List.length hx.1
  simp only [List.length_map] at this
  omega
 have hcs : cs.toList = (zs.map fun z => (k, z)).map fun z => Value.int z.1 z.2 := by
  apply List.ext_getElem
  ·simp only [List.length_map]; rw [hl, hct, hzl]
  ·intro j hj hj'
   simp only [List.length_map] at hj'
   have hjm : j < m := by omega
   have h4 := hel j hjm
   rw [hc, Nat.mul_one, List.getElem?_eq_getElem (by omega)] at h4
   obtain ⟨n', e1, e2, -⟩ := DataW.trod_int he h4
   have e3 : cs.toList[j] = .int k n' := by
    have : (cs.toList.drop j).take 1 = [cs.toList[j]] := by
     rw [List.drop_eq_getElem_cons hj]; rfl
    rw [this] at e1
    exact (List.cons.inj e1).1
   rw [e3]
   have e4 : (xs.map (·.1))[j]'(by simp; omega) = .lit (.int k n') := by simp only [List.getElem_map]; rw [e2]
   have e5 : (zs.map fun z => (DataW.lit (.int k z) : DataW Unit))[j]'(by simp; omega) = .lit (.int k n') := by
    rw [← e4]; congr 1; exact hx.1
   simp only [List.getElem_map] at e5
   have e6 : zs[j] = n' := by simpa using e5
   simp only [List.getElem_map]
   rw [e6]
 have := gok_cells (W := W) rfl (g := g) (zs := zs.map fun z => (k, z)) (by simpa using hz) hcs h2 h3
 simpa only [List.length_map, List.map_map, Function.comp_def] using this
noncomputable def gnum (gl : List (Nat × Nat)) (g : Nat) : Nat := look (fun x => x) (g + 100) gl g
theorem gok_of {f : FuncId → Option (Nat × Nat)} {gl : List (Nat × Nat)} {gs : List (Nat × DV × K)} {S : Stab} (hlow : (gs.all fun x => Nat.blt x.1 100) = true)
  (h : ∀ x ∈ gl, ∀ v k, look some none gs x.2 = some (v, k) → (∃ e, W.shape? x.1 = some (e, k.size)) ∧ ∃ c, At W S x.1 0 k.size c ∧ RelD W S v (mkV k c)) : GOK ⟨f, gnum gl⟩ (look some none gs) W S := by
 intro g v k hg
 change look some none gs (gnum gl g) = _ at hg
 unfold gnum at hg
 rcases look_mem (f := fun x => x) (z := g + 100) (l := gl) (n := g) with h1 | ⟨x, h1, h2⟩
 ·exfalso
  rw [h1] at hg
  rcases look_mem (f := some) (z := none) (l := gs) (n := g + 100) with h3 | ⟨y, h3, -⟩
  ·rw [h3] at hg; cases hg
  ·have := List.all_eq_true.1 hlow _ h3
   have := Nat.le_of_ble_eq_true this
   omega
 ·rw [h2] at hg
  exact h (g, x) h1 v k hg
end
end Go.Sim
end
section
namespace Go.Sim
def annC : PC → List (List Nat) → PC × List (List Nat)
 | .seq a b, l => (.seq (annC a l).1 (annC b (annC a l).2).1, (annC b (annC a l).2).2)
 | .cond c x y, l => (.cond c (annC x l).1 (annC y (annC x l).2).1, (annC y (annC x l).2).2)
 | .block id x, l => (.block id (annC x l).1, (annC x l).2)
 | .loop _ x, m :: l => (.loop m (annC x l).1, (annC x l).2)
 | .rng f g ps _ a x, m :: l => (.rng f g ps m (annC a l).1 (annC x (annC a l).2).1, (annC x (annC a l).2).2)
 | c, l => (c, l)
def annF (F : PF) (l : List (List Nat)) : PF := ⟨F.nargs, F.results, (annC F.body l).1⟩
end Go.Sim
end
