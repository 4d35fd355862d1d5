/- Part 8 of the proof: CbA51sb. -/
import Derived.Test.YtehcjdaedhmkdaaGreatDoorB2
import Derived.Test.YtehcjdaedhmkdaaGreatDoorB6
namespace Go.Sim
def L223_0 : PC :=
 sq (sq (.reg [
 O 11 (.mov (.t 5)),
 O 12 (.mov (.t 0)),
 O 13 (.len false (.t 12)),
 O 14 (.bin .lss (.t 11) (.t 13))] [13, 12, 11]) (
 .cond (.t 14) (.skip)
 (.exit 0))) (
 sq (.block 1 (
 sq (.regD [
 O 17 (.mov (.t 0)),
 O 18 (.mov (.t 5)),
 O 19 (.iaddr (K1 3) (.t 17) (.t 18)),
 O 20 (.faddr 0 (.t 19)),
 O 21 (.load K0 (.t 20)),
 O 22 (.mov (.t 1)),
 O 23 (.mov (.t 5)),
 O 24 (.iaddr (K1 3) (.t 22) (.t 23)),
 O 25 (.faddr 0 (.t 24)),
 O 26 (.load K0 (.t 25)),
 O 27 (.bin .neq (.t 21) (.t 26)),
 O 28 (.mov (.t 27)),
 OG 29 28 false (.mov (.t 0)),
 OG 30 28 false (.mov (.t 5)),
 OG 31 28 false (.iaddr (K1 3) (.t 29) (.t 30)),
 OG 32 28 false (.faddr 1 (.t 31)),
 OG 33 28 false (.load K0 (.t 32)),
 OG 34 28 false (.mov (.t 1)),
 OG 35 28 false (.mov (.t 5)),
 OG 36 28 false (.iaddr (K1 3) (.t 34) (.t 35)),
 OG 37 28 false (.faddr 1 (.t 36)),
 OG 38 28 false (.load K0 (.t 37)),
 OG 39 28 false (.call 0 300 [(.t 33), (.t 38)]),
 OG 40 28 false (.un .not (.t 39)),
 O 41 (.pick (.t 28) (.c (.b true)) (.t 40)),
 O 42 (.mov (.t 41)),
 OG 43 42 false (.mov (.t 0)),
 OG 44 42 false (.mov (.t 5)),
 OG 45 42 false (.iaddr (K1 3) (.t 43) (.t 44)),
 OG 46 42 false (.faddr 2 (.t 45)),
 OG 47 42 false (.load K0 (.t 46)),
 OG 48 42 false (.mov (.t 1)),
 OG 49 42 false (.mov (.t 5)),
 OG 50 42 false (.iaddr (K1 3) (.t 48) (.t 49)),
 OG 51 42 false (.faddr 2 (.t 50)),
 OG 52 42 false (.load K0 (.t 51)),
 OG 53 42 false (.call 0 300 [(.t 47), (.t 52)]),
 OG 54 42 false (.un .not (.t 53)),
 O 55 (.pick (.t 42) (.c (.b true)) (.t 54))] [0, 0, 3, 7, 15, 0, 0, 96, 224, 480, 1023, 2047, 4095, 4095, 16383, 32767, 65535, 4095, 4095, 397311, 921599, 1970175, 4194303, 8388607, 16777215, 33554431, 67108863, 67108863, 268435455, 536870911, 1073741823, 67108863, 67108863, 6509559807, 15099494399, 32279363583, 68719476735, 137438953471, 274877906943] [54, 53, 52, 51, 50, 49, 48, 47, 46, 45, 44, 43, 42, 41, 40, 39, 38, 37, 36, 35, 34, 33, 32, 31, 30, 29, 28, 27, 26, 25, 24, 23, 22, 21, 20, 19, 18, 17]) (
 .cond (.t 55) (sq (.reg [
 O 4 (.mov (.c (.b false)))] []) (
 .ret))
 (.skip)))) (
 .reg [
 O 15 (.mov (.t 5)),
 O 16 (.bin .add (.t 15) (.c (I 1))),
 O 5 (.mov (.t 16))] [16, 15]))
def F223 : PF := ⟨2, [.t 4],
 sq (.reg [
 O 4 (.mov (.c (.b false)))] [4]) (
 sq (sq (.reg [
 O 6 (.mov (.t 0)),
 O 7 (.len false (.t 6)),
 O 8 (.mov (.t 1)),
 O 9 (.len false (.t 8)),
 O 10 (.bin .neq (.t 7) (.t 9))] [9, 8, 7, 6]) (
 .cond (.t 10) (sq (.reg [
 O 4 (.mov (.c (.b false)))] []) (
 .ret))
 (.skip))) (
 sq (sq (.reg [
 O 5 (.mov (.c (I 0)))] []) (
 .block 0 (
 .loop [0, 1, 5] L223_0))) (
 sq (.reg [
 O 4 (.mov (.c (.b true)))] []) (
 .ret))))⟩
def L224_0 : PC :=
 sq (sq (.reg [
 O 84 (.mov (.t 5)),
 O 85 (.faddr 18 (.t 2)),
 O 86 (.load K0 (.t 85)),
 O 87 (.len false (.t 86)),
 O 88 (.bin .lss (.t 84) (.t 87))] [87, 86, 85, 84]) (
 .cond (.t 88) (.skip)
 (.exit 0))) (
 sq (.block 1 (
 sq (.regD [
 O 91 (.faddr 18 (.t 2)),
 O 92 (.load K0 (.t 91)),
 O 93 (.mov (.t 5)),
 O 94 (.iaddr (K1 6) (.t 92) (.t 93)),
 O 95 (.faddr 0 (.t 94)),
 O 96 (.load K0 (.t 95)),
 O 97 (.faddr 18 (.t 3)),
 O 98 (.load K0 (.t 97)),
 O 99 (.mov (.t 5)),
 O 100 (.iaddr (K1 6) (.t 98) (.t 99)),
 O 101 (.faddr 0 (.t 100)),
 O 102 (.load K0 (.t 101)),
 O 103 (.bin .neq (.t 96) (.t 102)),
 O 104 (.mov (.t 103)),
 OG 105 104 false (.faddr 18 (.t 2)),
 OG 106 104 false (.load K0 (.t 105)),
 OG 107 104 false (.mov (.t 5)),
 OG 108 104 false (.iaddr (K1 6) (.t 106) (.t 107)),
 OG 109 104 false (.faddr 1 (.t 108)),
 OG 110 104 false (.load K0 (.t 109)),
 OG 111 104 false (.faddr 18 (.t 3)),
 OG 112 104 false (.load K0 (.t 111)),
 OG 113 104 false (.mov (.t 5)),
 OG 114 104 false (.iaddr (K1 6) (.t 112) (.t 113)),
 OG 115 104 false (.faddr 1 (.t 114)),
 OG 116 104 false (.load K0 (.t 115)),
 OG 117 104 false (.bin .neq (.t 110) (.t 116)),
 O 118 (.pick (.t 104) (.c (.b true)) (.t 117)),
 O 119 (.mov (.t 118)),
 OG 120 119 false (.faddr 18 (.t 2)),
 OG 121 119 false (.load K0 (.t 120)),
 OG 122 119 false (.mov (.t 5)),
 OG 123 119 false (.iaddr (K1 6) (.t 121) (.t 122)),
 OG 124 119 false (.faddr 2 (.t 123)),
 OG 125 119 false (.load (K1 4) (.t 124)),
 OG 126 119 false (.faddr 18 (.t 3)),
 OG 127 119 false (.load K0 (.t 126)),
 OG 128 119 false (.mov (.t 5)),
 OG 129 119 false (.iaddr (K1 6) (.t 127) (.t 128)),
 OG 130 119 false (.faddr 2 (.t 129)),
 OG 131 119 false (.load (K1 4) (.t 130)),
 OG 132 119 false (.call 0 303 [(.t 125), (.t 131)]),
 OG 133 119 false (.un .not (.t 132)),
 O 134 (.pick (.t 119) (.c (.b true)) (.t 133))] [0, 1, 0, 7, 15, 31, 0, 64, 0, 448, 960, 1984, 4095, 8191, 16383, 32767, 16383, 131071, 262143, 524287, 16383, 1064959, 16383, 7356415, 15745023, 32522239, 67108863, 134217727, 268435455, 536870911, 1073741823, 536870911, 4294967295, 8589934591, 17179869183, 536870911, 34896609279, 536870911, 241055039487, 515932946431, 1065688760319, 2199023255551, 4398046511103, 8796093022207] [133, 132, 131, 130, 129, 128, 127, 126, 125, 124, 123, 122, 121, 120, 119, 118, 117, 116, 115, 114, 113, 112, 111, 110, 109, 108, 107, 106, 105, 104, 103, 102, 101, 100, 99, 98, 97, 96, 95, 94, 93, 92, 91]) (
 .cond (.t 134) (sq (.reg [
 O 4 (.mov (.c (.b false)))] []) (
 .ret))
 (.skip)))) (
 .reg [
 O 89 (.mov (.t 5)),
 O 90 (.bin .add (.t 89) (.c (I 1))),
 O 5 (.mov (.t 90))] [90, 89]))
def F224 : PF := ⟨2, [.t 4],
 sq (.reg [
 O 2 (.box (K1 19) (.t 0)),
 O 3 (.box (K1 19) (.t 1)),
 O 4 (.mov (.c (.b false)))] [4, 1, 0]) (
 sq (sq (.reg [
 O 6 (.faddr 0 (.t 2)),
 O 7 (.load K0 (.t 6)),
 O 8 (.faddr 0 (.t 3)),
 O 9 (.load K0 (.t 8)),
 O 10 (.bin .neq (.t 7) (.t 9)),
 O 11 (.mov (.t 10)),
 OG 12 11 false (.faddr 1 (.t 2)),
 OG 13 11 false (.load K0 (.t 12)),
 OG 14 11 false (.faddr 1 (.t 3)),
 OG 15 11 false (.load K0 (.t 14)),
 OG 16 11 false (.bin .neq (.t 13) (.t 15)),
 O 17 (.pick (.t 11) (.c (.b true)) (.t 16)),
 O 18 (.mov (.t 17)),
 OG 19 18 false (.faddr 2 (.t 2)),
 OG 20 18 false (.load K0 (.t 19)),
 OG 21 18 false (.faddr 2 (.t 3)),
 OG 22 18 false (.load K0 (.t 21)),
 OG 23 18 false (.bin .neq (.t 20) (.t 22)),
 O 24 (.pick (.t 18) (.c (.b true)) (.t 23)),
 O 25 (.mov (.t 24)),
 OG 26 25 false (.faddr 3 (.t 2)),
 OG 27 25 false (.load K0 (.t 26)),
 OG 28 25 false (.faddr 3 (.t 3)),
 OG 29 25 false (.load K0 (.t 28)),
 OG 30 25 false (.bin .neq (.t 27) (.t 29)),
 O 31 (.pick (.t 25) (.c (.b true)) (.t 30)),
 O 32 (.mov (.t 31)),
 OG 33 32 false (.faddr 4 (.t 2)),
 OG 34 32 false (.load K0 (.t 33)),
 OG 35 32 false (.faddr 4 (.t 3)),
 OG 36 32 false (.load K0 (.t 35)),
 OG 37 32 false (.bin .neq (.t 34) (.t 36)),
 O 38 (.pick (.t 32) (.c (.b true)) (.t 37)),
 O 39 (.mov (.t 38)),
 OG 40 39 false (.faddr 5 (.t 2)),
 OG 41 39 false (.load K0 (.t 40)),
 OG 42 39 false (.faddr 5 (.t 3)),
 OG 43 39 false (.load K0 (.t 42)),
 OG 44 39 false (.bin .neq (.t 41) (.t 43)),
 O 45 (.pick (.t 39) (.c (.b true)) (.t 44)),
 O 46 (.mov (.t 45)),
 OG 47 46 false (.faddr 6 (.t 2)),
 OG 48 46 false (.load K0 (.t 47)),
 OG 49 46 false (.faddr 6 (.t 3)),
 OG 50 46 false (.load K0 (.t 49)),
 OG 51 46 false (.bin .neq (.t 48) (.t 50)),
 O 52 (.pick (.t 46) (.c (.b true)) (.t 51))] [51, 50, 49, 48, 47, 46, 45, 44, 43, 42, 41, 40, 39, 38, 37, 36, 35, 34, 33, 32, 31, 30, 29, 28, 27, 26, 25, 24, 23, 22, 21, 20, 19, 18, 17, 16, 15, 14, 13, 12, 11, 10, 9, 8, 7, 6]) (
 .cond (.t 52) (sq (.reg [
 O 4 (.mov (.c (.b false)))] []) (
 .ret))
 (.skip))) (
 sq (sq (.reg [
 O 53 (.faddr 7 (.t 2)),
 O 54 (.load (K1 5) (.t 53)),
 O 55 (.faddr 7 (.t 3)),
 O 56 (.load (K1 5) (.t 55)),
 O 57 (.call 0 301 [(.t 54), (.t 56)]),
 O 58 (.un .not (.t 57)),
 O 59 (.mov (.t 58)),
 OG 60 59 false (.faddr 12 (.t 2)),
 OG 61 59 false (.load (K1 5) (.t 60)),
 OG 62 59 false (.faddr 12 (.t 3)),
 OG 63 59 false (.load (K1 5) (.t 62)),
 OG 64 59 false (.call 0 301 [(.t 61), (.t 63)]),
 OG 65 59 false (.un .not (.t 64)),
 O 66 (.pick (.t 59) (.c (.b true)) (.t 65)),
 O 67 (.mov (.t 66)),
 OG 68 67 false (.faddr 17 (.t 2)),
 OG 69 67 false (.load K0 (.t 68)),
 OG 70 67 false (.faddr 17 (.t 3)),
 OG 71 67 false (.load K0 (.t 70)),
 OG 72 67 false (.call 0 302 [(.t 69), (.t 71)]),
 OG 73 67 false (.un .not (.t 72)),
 O 74 (.pick (.t 67) (.c (.b true)) (.t 73)),
 O 75 (.mov (.t 74)),
 OG 76 75 false (.faddr 18 (.t 2)),
 OG 77 75 false (.load K0 (.t 76)),
 OG 78 75 false (.len false (.t 77)),
 OG 79 75 false (.faddr 18 (.t 3)),
 OG 80 75 false (.load K0 (.t 79)),
 OG 81 75 false (.len false (.t 80)),
 OG 82 75 false (.bin .neq (.t 78) (.t 81)),
 O 83 (.pick (.t 75) (.c (.b true)) (.t 82))] [82, 81, 80, 79, 78, 77, 76, 75, 74, 73, 72, 71, 70, 69, 68, 67, 66, 65, 64, 63, 62, 61, 60, 59, 58, 57, 56, 55, 54, 53]) (
 .cond (.t 83) (sq (.reg [
 O 4 (.mov (.c (.b false)))] []) (
 .ret))
 (.skip))) (
 sq (sq (.reg [
 O 5 (.mov (.c (I 0)))] []) (
 .block 0 (
 .loop [2, 3, 5] L224_0))) (
 sq (.reg [
 O 4 (.mov (.c (.b true)))] []) (
 .ret)))))⟩
def F230 : PF := eachF (K1 3) 64 (.a [(.s []), (.l K0 [] true), (.l K0 [] true)])
def F231 : PF := ⟨1, [.c 2 (K1 3)],
 sq (.reg [
 O 1 (.box (K1 3) (.t 0)),
 O 2 (.alloc (K1 3) (.a [(.s []), (.l K0 [] true), (.l K0 [] true)]))] [0]) (
 sq (.regD [
 O 3 (.faddr 1 (.t 1)),
 O 4 (.load K0 (.t 3)),
 O 5 (.call 1 160 [(.t 4)]),
 O 6 (.faddr 2 (.t 1)),
 O 7 (.load K0 (.t 6)),
 O 8 (.call 1 160 [(.t 7)]),
 O 9 (.faddr 1 (.t 1)),
 E (.store K0 (.t 9) (.t 5)),
 O 10 (.faddr 2 (.t 1)),
 E (.store K0 (.t 10) (.t 8))] [0, 1, 3, 0, 8, 31, 31, 127, 255, 511] [10, 9, 8, 7, 6, 5, 4, 3]) (
 sq (.reg [
 O 11 (.load (K1 3) (.t 1)),
 E (.store (K1 3) (.t 2) (.t 11))] [1, 11]) (
 .ret)))⟩
def F232 : PF := eachF (K1 19) 240 (.a [(.s []), (.s []), (.s []), (I 0), (I 0), (I 0), (I 0), (.l (K1 2) [] true), (.b false), (I 0), (I 0), (.b false), (.l (K1 2) [] true), (.b false), (I 0), (I 0), (.b false), (.l (K1 10) [] true), (.l (K1 6) [] true)])
def F233 : PF := ⟨1, [.c 2 (K1 19)],
 sq (.reg [
 O 1 (.box (K1 19) (.t 0)),
 O 2 (.alloc (K1 19) (.a [(.s []), (.s []), (.s []), (I 0), (I 0), (I 0), (I 0), (.l (K1 2) [] true), (.b false), (I 0), (I 0), (.b false), (.l (K1 2) [] true), (.b false), (I 0), (I 0), (.b false), (.l (K1 10) [] true), (.l (K1 6) [] true)]))] [0]) (
 sq (.regD [
 O 3 (.faddr 7 (.t 1)),
 O 4 (.load (K1 5) (.t 3)),
 O 5 (.call 0 304 [(.t 4)]),
 O 6 (.faddr 12 (.t 1)),
 O 7 (.load (K1 5) (.t 6)),
 O 8 (.call 0 304 [(.t 7)]),
 O 9 (.faddr 7 (.t 1)),
 E (.store (K1 5) (.t 9) (.t 5)),
 O 10 (.faddr 12 (.t 1)),
 E (.store (K1 5) (.t 10) (.t 8))] [0, 1, 3, 0, 8, 31, 31, 127, 255, 511] [10, 9, 8, 7, 6, 5, 4, 3]) (
 sq (.reg [
 O 11 (.faddr 17 (.t 1)),
 O 12 (.load K0 (.t 11)),
 O 13 (.call 2 305 [(.t 12), (.f 306)]),
 O 14 (.faddr 17 (.t 1)),
 E (.store K0 (.t 14) (.t 13))] [14, 13, 12, 11]) (
 sq (.reg [
 O 15 (.faddr 18 (.t 1)),
 O 16 (.load K0 (.t 15)),
 O 17 (.call 2 308 [(.t 16), (.f 309)]),
 O 18 (.faddr 18 (.t 1)),
 E (.store K0 (.t 18) (.t 17))] [18, 17, 16, 15]) (
 sq (.reg [
 O 19 (.load (K1 19) (.t 1)),
 E (.store (K1 19) (.t 2) (.t 19))] [1, 19]) (
 .ret)))))⟩
def F234 : PF := ⟨1, [.t 2],
 sq (.reg [
 O 2 (.mov (.c (.l (K1 10) [] true)))] [2]) (
 sq (.reg [
 O 3 (.mov (.t 0)),
 O 4 (.call 2 310 [(.t 3), (.f 10)]),
 O 2 (.mov (.t 4))] [4, 0, 3]) (
 .ret))⟩
def L300_0 : PC :=
 sq (sq (.reg [
 O 11 (.mov (.t 5)),
 O 12 (.mov (.t 0)),
 O 13 (.len false (.t 12)),
 O 14 (.bin .lss (.t 11) (.t 13))] [13, 12, 11]) (
 .cond (.t 14) (.skip)
 (.exit 0))) (
 sq (.block 1 (
 sq (.regD [
 O 17 (.mov (.t 0)),
 O 18 (.mov (.t 5)),
 O 19 (.iaddr K0 (.t 17) (.t 18)),
 O 20 (.load K0 (.t 19)),
 O 21 (.mov (.t 1)),
 O 22 (.mov (.t 5)),
 O 23 (.iaddr K0 (.t 21) (.t 22)),
 O 24 (.load K0 (.t 23)),
 O 25 (.bin .neq (.t 20) (.t 24))] [0, 0, 3, 7, 0, 0, 48, 112, 255] [24, 23, 22, 21, 20, 19, 18, 17]) (
 .cond (.t 25) (sq (.reg [
 O 4 (.mov (.c (.b false)))] []) (
 .ret))
 (.skip)))) (
 .reg [
 O 15 (.mov (.t 5)),
 O 16 (.bin .add (.t 15) (.c (I 1))),
 O 5 (.mov (.t 16))] [16, 15]))
def F300 : PF := ⟨2, [.t 4],
 sq (.reg [
 O 4 (.mov (.c (.b false)))] [4]) (
 sq (sq (.reg [
 O 6 (.mov (.t 0)),
 O 7 (.len false (.t 6)),
 O 8 (.mov (.t 1)),
 O 9 (.len false (.t 8)),
 O 10 (.bin .neq (.t 7) (.t 9))] [9, 8, 7, 6]) (
 .cond (.t 10) (sq (.reg [
 O 4 (.mov (.c (.b false)))] []) (
 .ret))
 (.skip))) (
 sq (sq (.reg [
 O 5 (.mov (.c (I 0)))] []) (
 .block 0 (
 .loop [0, 1, 5] L300_0))) (
 sq (.reg [
 O 4 (.mov (.c (.b true)))] []) (
 .ret))))⟩
def L301_0 : PC :=
 sq (sq (.reg [
 O 41 (.mov (.t 5)),
 O 42 (.faddr 0 (.t 2)),
 O 43 (.load K0 (.t 42)),
 O 44 (.len false (.t 43)),
 O 45 (.bin .lss (.t 41) (.t 44))] [44, 43, 42, 41]) (
 .cond (.t 45) (.skip)
 (.exit 0))) (
 sq (.block 1 (
 sq (.regD [
 O 48 (.faddr 0 (.t 2)),
 O 49 (.load K0 (.t 48)),
 O 50 (.mov (.t 5)),
 O 51 (.iaddr (K1 2) (.t 49) (.t 50)),
 O 52 (.load (K1 2) (.t 51)),
 O 53 (.faddr 0 (.t 3)),
 O 54 (.load K0 (.t 53)),
 O 55 (.mov (.t 5)),
 O 56 (.iaddr (K1 2) (.t 54) (.t 55)),
 O 57 (.load (K1 2) (.t 56)),
 O 58 (.eqv true [1, 1] (.t 52) (.t 57))] [0, 1, 0, 7, 15, 0, 32, 0, 224, 480, 1023] [57, 56, 55, 54, 53, 52, 51, 50, 49, 48]) (
 .cond (.t 58) (sq (.reg [
 O 4 (.mov (.c (.b false)))] []) (
 .ret))
 (.skip)))) (
 .reg [
 O 46 (.mov (.t 5)),
 O 47 (.bin .add (.t 46) (.c (I 1))),
 O 5 (.mov (.t 47))] [47, 46]))
def F301 : PF := ⟨2, [.t 4],
 sq (.reg [
 O 2 (.box (K1 5) (.t 0)),
 O 3 (.box (K1 5) (.t 1)),
 O 4 (.mov (.c (.b false)))] [4, 1, 0]) (
 sq (sq (.reg [
 O 6 (.faddr 0 (.t 2)),
 O 7 (.load K0 (.t 6)),
 O 8 (.len false (.t 7)),
 O 9 (.faddr 0 (.t 3)),
 O 10 (.load K0 (.t 9)),
 O 11 (.len false (.t 10)),
 O 12 (.bin .neq (.t 8) (.t 11)),
 O 13 (.mov (.t 12)),
 OG 14 13 false (.faddr 1 (.t 2)),
 OG 15 13 false (.load K0 (.t 14)),
 OG 16 13 false (.faddr 1 (.t 3)),
 OG 17 13 false (.load K0 (.t 16)),
 OG 18 13 false (.eqb true (.t 15) (.t 17)),
 O 19 (.pick (.t 13) (.c (.b true)) (.t 18)),
 O 20 (.mov (.t 19)),
 OG 21 20 false (.faddr 2 (.t 2)),
 OG 22 20 false (.load K0 (.t 21)),
 OG 23 20 false (.faddr 2 (.t 3)),
 OG 24 20 false (.load K0 (.t 23)),
 OG 25 20 false (.bin .neq (.t 22) (.t 24)),
 O 26 (.pick (.t 20) (.c (.b true)) (.t 25)),
 O 27 (.mov (.t 26)),
 OG 28 27 false (.faddr 3 (.t 2)),
 OG 29 27 false (.load K0 (.t 28)),
 OG 30 27 false (.faddr 3 (.t 3)),
 OG 31 27 false (.load K0 (.t 30)),
 OG 32 27 false (.bin .neq (.t 29) (.t 31)),
 O 33 (.pick (.t 27) (.c (.b true)) (.t 32)),
 O 34 (.mov (.t 33)),
 OG 35 34 false (.faddr 4 (.t 2)),
 OG 36 34 false (.load K0 (.t 35)),
 OG 37 34 false (.faddr 4 (.t 3)),
 OG 38 34 false (.load K0 (.t 37)),
 OG 39 34 false (.eqb true (.t 36) (.t 38)),
 O 40 (.pick (.t 34) (.c (.b true)) (.t 39))] [39, 38, 37, 36, 35, 34, 33, 32, 31, 30, 29, 28, 27, 26, 25, 24, 23, 22, 21, 20, 19, 18, 17, 16, 15, 14, 13, 12, 11, 10, 9, 8, 7, 6]) (
 .cond (.t 40) (sq (.reg [
 O 4 (.mov (.c (.b false)))] []) (
 .ret))
 (.skip))) (
 sq (sq (.reg [
 O 5 (.mov (.c (I 0)))] []) (
 .block 0 (
 .loop [2, 3, 5] L301_0))) (
 sq (.reg [
 O 4 (.mov (.c (.b true)))] []) (
 .ret))))⟩
def L302_0 : PC :=
 sq (sq (.reg [
 O 11 (.mov (.t 5)),
 O 12 (.mov (.t 0)),
 O 13 (.len false (.t 12)),
 O 14 (.bin .lss (.t 11) (.t 13))] [13, 12, 11]) (
 .cond (.t 14) (.skip)
 (.exit 0))) (
 sq (.block 1 (
 sq (.regD [
 O 17 (.mov (.t 0)),
 O 18 (.mov (.t 5)),
 O 19 (.iaddr (K1 10) (.t 17) (.t 18)),
 O 20 (.faddr 0 (.t 19)),
 O 21 (.load K0 (.t 20)),
 O 22 (.mov (.t 1)),
 O 23 (.mov (.t 5)),
 O 24 (.iaddr (K1 10) (.t 22) (.t 23)),
 O 25 (.faddr 0 (.t 24)),
 O 26 (.load K0 (.t 25)),
 O 27 (.bin .neq (.t 21) (.t 26)),
 O 28 (.mov (.t 27)),
 OG 29 28 false (.mov (.t 0)),
 OG 30 28 false (.mov (.t 5)),
 OG 31 28 false (.iaddr (K1 10) (.t 29) (.t 30)),
 OG 32 28 false (.faddr 1 (.t 31)),
 OG 33 28 false (.load K0 (.t 32)),
 OG 34 28 false (.mov (.t 1)),
 OG 35 28 false (.mov (.t 5)),
 OG 36 28 false (.iaddr (K1 10) (.t 34) (.t 35)),
 OG 37 28 false (.faddr 1 (.t 36)),
 OG 38 28 false (.load K0 (.t 37)),
 OG 39 28 false (.bin .neq (.t 33) (.t 38)),
 O 40 (.pick (.t 28) (.c (.b true)) (.t 39)),
 O 41 (.mov (.t 40)),
 OG 42 41 false (.mov (.t 0)),
 OG 43 41 false (.mov (.t 5)),
 OG 44 41 false (.iaddr (K1 10) (.t 42) (.t 43)),
 OG 45 41 false (.faddr 2 (.t 44)),
 OG 46 41 false (.load (K1 4) (.t 45)),
 OG 47 41 false (.mov (.t 1)),
 OG 48 41 false (.mov (.t 5)),
 OG 49 41 false (.iaddr (K1 10) (.t 47) (.t 48)),
 OG 50 41 false (.faddr 2 (.t 49)),
 OG 51 41 false (.load (K1 4) (.t 50)),
 OG 52 41 false (.call 0 303 [(.t 46), (.t 51)]),
 OG 53 41 false (.un .not (.t 52)),
 O 54 (.pick (.t 41) (.c (.b true)) (.t 53)),
 O 55 (.mov (.t 54)),
 OG 56 55 false (.mov (.t 0)),
 OG 57 55 false (.mov (.t 5)),
 OG 58 55 false (.iaddr (K1 10) (.t 56) (.t 57)),
 OG 59 55 false (.faddr 6 (.t 58)),
 OG 60 55 false (.load (K1 4) (.t 59)),
 OG 61 55 false (.mov (.t 1)),
 OG 62 55 false (.mov (.t 5)),
 OG 63 55 false (.iaddr (K1 10) (.t 61) (.t 62)),
 OG 64 55 false (.faddr 6 (.t 63)),
 OG 65 55 false (.load (K1 4) (.t 64)),
 OG 66 55 false (.call 0 303 [(.t 60), (.t 65)]),
 OG 67 55 false (.un .not (.t 66)),
 O 68 (.pick (.t 55) (.c (.b true)) (.t 67))] [0, 0, 3, 7, 15, 0, 0, 96, 224, 480, 1023, 2047, 4095, 4095, 16383, 32767, 65535, 4095, 4095, 397311, 921599, 1970175, 4194303, 8388607, 16777215, 33554431, 33554431, 134217727, 268435455, 536870911, 33554431, 33554431, 3254779903, 7549747199, 16139681791, 34359738367, 68719476735, 137438953471, 274877906943, 549755813887, 549755813887, 2199023255551, 4398046511103, 8796093022207, 549755813887, 549755813887, 53326313947135, 123695058124799, 264432546480127, 562949953421311, 1125899906842623, 2251799813685247] [67, 66, 65, 64, 63, 62, 61, 60, 59, 58, 57, 56, 55, 54, 53, 52, 51, 50, 49, 48, 47, 46, 45, 44, 43, 42, 41, 40, 39, 38, 37, 36, 35, 34, 33, 32, 31, 30, 29, 28, 27, 26, 25, 24, 23, 22, 21, 20, 19, 18, 17]) (
 .cond (.t 68) (sq (.reg [
 O 4 (.mov (.c (.b false)))] []) (
 .ret))
 (.skip)))) (
 .reg [
 O 15 (.mov (.t 5)),
 O 16 (.bin .add (.t 15) (.c (I 1))),
 O 5 (.mov (.t 16))] [16, 15]))
def F302 : PF := ⟨2, [.t 4],
 sq (.reg [
 O 4 (.mov (.c (.b false)))] [4]) (
 sq (sq (.reg [
 O 6 (.mov (.t 0)),
 O 7 (.len false (.t 6)),
 O 8 (.mov (.t 1)),
 O 9 (.len false (.t 8)),
 O 10 (.bin .neq (.t 7) (.t 9))] [9, 8, 7, 6]) (
 .cond (.t 10) (sq (.reg [
 O 4 (.mov (.c (.b false)))] []) (
 .ret))
 (.skip))) (
 sq (sq (.reg [
 O 5 (.mov (.c (I 0)))] []) (
 .block 0 (
 .loop [0, 1, 5] L302_0))) (
 sq (.reg [
 O 4 (.mov (.c (.b true)))] []) (
 .ret))))⟩
def L303_0 : PC :=
 sq (sq (.reg [
 O 34 (.mov (.t 5)),
 O 35 (.faddr 3 (.t 2)),
 O 36 (.load K0 (.t 35)),
 O 37 (.len false (.t 36)),
 O 38 (.bin .lss (.t 34) (.t 37))] [37, 36, 35, 34]) (
 .cond (.t 38) (.skip)
 (.exit 0))) (
 sq (.block 1 (
 sq (.regD [
 O 41 (.faddr 3 (.t 2)),
 O 42 (.load K0 (.t 41)),
 O 43 (.mov (.t 5)),
 O 44 (.iaddr (K1 4) (.t 42) (.t 43)),
 O 45 (.load (K1 4) (.t 44)),
 O 46 (.faddr 3 (.t 3)),
 O 47 (.load K0 (.t 46)),
 O 48 (.mov (.t 5)),
 O 49 (.iaddr (K1 4) (.t 47) (.t 48)),
 O 50 (.load (K1 4) (.t 49)),
 O 51 (.call 0 303 [(.t 45), (.t 50)]),
 O 52 (.un .not (.t 51))] [0, 1, 0, 7, 15, 0, 32, 0, 224, 480, 1023, 2047] [51, 50, 49, 48, 47, 46, 45, 44, 43, 42, 41]) (
 .cond (.t 52) (sq (.reg [
 O 4 (.mov (.c (.b false)))] []) (
 .ret))
 (.skip)))) (
 .reg [
 O 39 (.mov (.t 5)),
 O 40 (.bin .add (.t 39) (.c (I 1))),
 O 5 (.mov (.t 40))] [40, 39]))
def F303 : PF := ⟨2, [.t 4],
 sq (.reg [
 O 2 (.box (K1 4) (.t 0)),
 O 3 (.box (K1 4) (.t 1)),
 O 4 (.mov (.c (.b false)))] [4, 1, 0]) (
 sq (sq (.reg [
 O 6 (.faddr 0 (.t 2)),
 O 7 (.load K0 (.t 6)),
 O 8 (.faddr 0 (.t 3)),
 O 9 (.load K0 (.t 8)),
 O 10 (.bin .neq (.t 7) (.t 9)),
 O 11 (.mov (.t 10)),
 OG 12 11 false (.faddr 1 (.t 2)),
 OG 13 11 false (.load K0 (.t 12)),
 OG 14 11 false (.faddr 1 (.t 3)),
 OG 15 11 false (.load K0 (.t 14)),
 OG 16 11 false (.bin .neq (.t 13) (.t 15)),
 O 17 (.pick (.t 11) (.c (.b true)) (.t 16)),
 O 18 (.mov (.t 17)),
 OG 19 18 false (.faddr 2 (.t 2)),
 OG 20 18 false (.load K0 (.t 19)),
 OG 21 18 false (.faddr 2 (.t 3)),
 OG 22 18 false (.load K0 (.t 21)),
 OG 23 18 false (.bin .neq (.t 20) (.t 22)),
 O 24 (.pick (.t 18) (.c (.b true)) (.t 23)),
 O 25 (.mov (.t 24)),
 OG 26 25 false (.faddr 3 (.t 2)),
 OG 27 25 false (.load K0 (.t 26)),
 OG 28 25 false (.len false (.t 27)),
 OG 29 25 false (.faddr 3 (.t 3)),
 OG 30 25 false (.load K0 (.t 29)),
 OG 31 25 false (.len false (.t 30)),
 OG 32 25 false (.bin .neq (.t 28) (.t 31)),
 O 33 (.pick (.t 25) (.c (.b true)) (.t 32))] [32, 31, 30, 29, 28, 27, 26, 25, 24, 23, 22, 21, 20, 19, 18, 17, 16, 15, 14, 13, 12, 11, 10, 9, 8, 7, 6]) (
 .cond (.t 33) (sq (.reg [
 O 4 (.mov (.c (.b false)))] []) (
 .ret))
 (.skip))) (
 sq (sq (.reg [
 O 5 (.mov (.c (I 0)))] []) (
 .block 0 (
 .loop [2, 3, 5] L303_0))) (
 sq (.reg [
 O 4 (.mov (.c (.b true)))] []) (
 .ret))))⟩
def F304 : PF := ⟨1, [.c 2 (K1 5)],
 sq (.reg [
 O 1 (.box (K1 5) (.t 0)),
 O 2 (.alloc (K1 5) (.a [(.l (K1 2) [] true), (.b false), (I 0), (I 0), (.b false)]))] [0]) (
 sq (.reg [
 O 3 (.faddr 0 (.t 1)),
 O 4 (.load K0 (.t 3)),
 O 5 (.call 1 60 [(.t 4)]),
 O 6 (.faddr 0 (.t 1)),
 E (.store K0 (.t 6) (.t 5))] [6, 5, 4, 3]) (
 sq (.reg [
 O 7 (.load (K1 5) (.t 1)),
 E (.store (K1 5) (.t 2) (.t 7))] [1, 7]) (
 .ret)))⟩
def F305 : PF := eachF (K1 10) 136 (.a [(.s []), (I 0), (I 0), (I 0), (.s []), (.l (K1 4) [] true), (I 0), (I 0), (.s []), (.l (K1 4) [] true)])
def F308 : PF := eachF (K1 6) 80 (.a [(.s []), (I 0), (I 0), (I 0), (.s []), (.l (K1 4) [] true)])
def F310 : PF := eachF (K1 10) 112 (.a [(I 0), (I 0), (I 0), (I 0), (I 0), (I 0), (.s []), (.s []), (.l (K1 3) [] true), (.i .u64 0)])
end Go.Sim

