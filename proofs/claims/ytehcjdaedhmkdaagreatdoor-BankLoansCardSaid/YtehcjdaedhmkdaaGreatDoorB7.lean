/- Part 7 of the proof: CbA51sa. -/
import Derived.Test.YtehcjdaedhmkdaaGreatDoorB2
import Derived.Test.YtehcjdaedhmkdaaGreatDoorB6
namespace Go.Sim
def F9 : PF := ⟨2, [.t 4],
 sq (.reg [
 O 2 (.box (K1 10) (.t 0)),
 O 3 (.box (K1 10) (.t 1)),
 O 4 (.mov (.c (.b false)))] [4, 1, 0]) (
 sq (.reg [
 O 5 (.faddr 0 (.t 2)),
 O 6 (.load K0 (.t 5)),
 O 7 (.faddr 0 (.t 3)),
 O 8 (.load K0 (.t 7)),
 O 9 (.bin .eql (.t 6) (.t 8)),
 O 10 (.mov (.t 9)),
 OG 11 10 true (.faddr 1 (.t 2)),
 OG 12 10 true (.load K0 (.t 11)),
 OG 13 10 true (.faddr 1 (.t 3)),
 OG 14 10 true (.load K0 (.t 13)),
 OG 15 10 true (.bin .eql (.t 12) (.t 14)),
 O 16 (.pick (.t 10) (.t 15) (.c (.b false))),
 O 17 (.mov (.t 16)),
 OG 18 17 true (.faddr 2 (.t 2)),
 OG 19 17 true (.load K0 (.t 18)),
 OG 20 17 true (.faddr 2 (.t 3)),
 OG 21 17 true (.load K0 (.t 20)),
 OG 22 17 true (.bin .eql (.t 19) (.t 21)),
 O 23 (.pick (.t 17) (.t 22) (.c (.b false))),
 O 24 (.mov (.t 23)),
 OG 25 24 true (.faddr 3 (.t 2)),
 OG 26 24 true (.load K0 (.t 25)),
 OG 27 24 true (.faddr 3 (.t 3)),
 OG 28 24 true (.load K0 (.t 27)),
 OG 29 24 true (.bin .eql (.t 26) (.t 28)),
 O 30 (.pick (.t 24) (.t 29) (.c (.b false))),
 O 31 (.mov (.t 30)),
 OG 32 31 true (.faddr 4 (.t 2)),
 OG 33 31 true (.load K0 (.t 32)),
 OG 34 31 true (.faddr 4 (.t 3)),
 OG 35 31 true (.load K0 (.t 34)),
 OG 36 31 true (.bin .eql (.t 33) (.t 35)),
 O 37 (.pick (.t 31) (.t 36) (.c (.b false))),
 O 38 (.mov (.t 37)),
 OG 39 38 true (.faddr 5 (.t 2)),
 OG 40 38 true (.load K0 (.t 39)),
 OG 41 38 true (.faddr 5 (.t 3)),
 OG 42 38 true (.load K0 (.t 41)),
 OG 43 38 true (.bin .eql (.t 40) (.t 42)),
 O 44 (.pick (.t 38) (.t 43) (.c (.b false))),
 O 45 (.mov (.t 44)),
 OG 46 45 true (.faddr 6 (.t 2)),
 OG 47 45 true (.load K0 (.t 46)),
 OG 48 45 true (.faddr 6 (.t 3)),
 OG 49 45 true (.load K0 (.t 48)),
 OG 50 45 true (.bin .eql (.t 47) (.t 49)),
 O 51 (.pick (.t 45) (.t 50) (.c (.b false))),
 O 52 (.mov (.t 51)),
 OG 53 52 true (.faddr 7 (.t 2)),
 OG 54 52 true (.load K0 (.t 53)),
 OG 55 52 true (.faddr 7 (.t 3)),
 OG 56 52 true (.load K0 (.t 55)),
 OG 57 52 true (.bin .eql (.t 54) (.t 56)),
 O 58 (.pick (.t 52) (.t 57) (.c (.b false))),
 O 59 (.mov (.t 58)),
 OG 60 59 true (.faddr 9 (.t 2)),
 OG 61 59 true (.load K0 (.t 60)),
 OG 62 59 true (.faddr 9 (.t 3)),
 OG 63 59 true (.load K0 (.t 62)),
 OG 64 59 true (.bin .eql (.t 61) (.t 63)),
 O 65 (.pick (.t 59) (.t 64) (.c (.b false))),
 O 66 (.mov (.t 65)),
 OG 67 66 true (.faddr 8 (.t 2)),
 OG 68 66 true (.load K0 (.t 67)),
 OG 69 66 true (.faddr 8 (.t 3)),
 OG 70 66 true (.load K0 (.t 69)),
 OG 71 66 true (.call 0 14 [(.t 68), (.t 70)]),
 O 72 (.pick (.t 66) (.t 71) (.c (.b false))),
 O 4 (.mov (.t 72))] [72, 71, 70, 69, 68, 67, 66, 65, 64, 63, 62, 61, 60, 59, 58, 57, 56, 55, 54, 53, 52, 51, 50, 49, 48, 47, 46, 45, 44, 43, 42, 41, 40, 39, 38, 37, 36, 35, 34, 33, 32, 31, 30, 29, 28, 27, 26, 25, 24, 23, 22, 21, 20, 19, 18, 17, 16, 15, 14, 13, 12, 11, 10, 9, 8, 3, 7, 6, 2, 5]) (
 .ret))⟩
def L14_0 : PC :=
 sq (sq (.reg [
 O 11 (.mov (.t 5)),
 O 12 (.mov (.t 0)),
 O 13 (.len false (.t 12)),
 O 14 (.bin .lss (.t 11) (.t 13))] [13, 12, 11]) (
 .cond (.t 14) (.skip)
 (.exit 0))) (
 sq (.block 1 (
 sq (.regD [
 O 17 (.mov (.t 0)),
 O 18 (.mov (.t 5)),
 O 19 (.iaddr (K1 3) (.t 17) (.t 18)),
 O 20 (.load (K1 3) (.t 19)),
 O 21 (.mov (.t 1)),
 O 22 (.mov (.t 5)),
 O 23 (.iaddr (K1 3) (.t 21) (.t 22)),
 O 24 (.load (K1 3) (.t 23)),
 O 25 (.eqv true [1, 1, 3] (.t 20) (.t 24))] [0, 0, 3, 7, 0, 0, 48, 112, 255] [24, 23, 22, 21, 20, 19, 18, 17]) (
 .cond (.t 25) (sq (.reg [
 O 4 (.mov (.c (.b false)))] []) (
 .ret))
 (.skip)))) (
 .reg [
 O 15 (.mov (.t 5)),
 O 16 (.bin .add (.t 15) (.c (I 1))),
 O 5 (.mov (.t 16))] [16, 15]))
def F14 : PF := ⟨2, [.t 4],
 sq (.reg [
 O 4 (.mov (.c (.b false)))] [4]) (
 sq (sq (.reg [
 O 6 (.mov (.t 0)),
 O 7 (.len false (.t 6)),
 O 8 (.mov (.t 1)),
 O 9 (.len false (.t 8)),
 O 10 (.bin .neq (.t 7) (.t 9))] [9, 8, 7, 6]) (
 .cond (.t 10) (sq (.reg [
 O 4 (.mov (.c (.b false)))] []) (
 .ret))
 (.skip))) (
 sq (sq (.reg [
 O 5 (.mov (.c (I 0)))] []) (
 .block 0 (
 .loop [0, 1, 5] L14_0))) (
 sq (.reg [
 O 4 (.mov (.c (.b true)))] []) (
 .ret))))⟩
def L77_0 : PC :=
 sq (sq (.reg [
 O 86 (.mov (.t 3)),
 O 87 (.faddr 3 (.t 1)),
 O 88 (.faddr 18 (.t 87)),
 O 89 (.load K0 (.t 88)),
 O 90 (.len false (.t 89)),
 O 91 (.bin .lss (.t 86) (.t 90)),
 O 92 (.mov (.t 91)),
 OG 93 92 true (.faddr 0 (.t 1)),
 OG 94 92 true (.load K0 (.t 93)),
 OG 95 92 true (.bin .geq (.t 94) (.c (I 0))),
 O 96 (.pick (.t 92) (.t 95) (.c (.b false))),
 O 97 (.mov (.t 96)),
 OG 98 97 true (.faddr 0 (.t 1)),
 OG 99 97 true (.load K0 (.t 98)),
 OG 100 97 true (.bin .leq (.t 99) (.c (I 73048))),
 O 101 (.pick (.t 97) (.t 100) (.c (.b false)))] [100, 99, 98, 97, 96, 95, 94, 93, 92, 91, 90, 89, 88, 87, 86]) (
 .cond (.t 101) (.skip)
 (.exit 0))) (
 sq (.block 1 (
 sq (.reg [
 O 104 (.faddr 3 (.t 1)),
 O 105 (.faddr 18 (.t 104)),
 O 106 (.load K0 (.t 105)),
 O 107 (.mov (.t 3)),
 O 108 (.iaddr (K1 7) (.t 106) (.t 107)),
 O 109 (.faddr 1 (.t 108)),
 O 110 (.load K0 (.t 109)),
 O 4 (.mov (.t 110))] [110, 109, 108, 107, 106, 105, 104]) (
 sq (.reg [
 O 111 (.mov (.t 4)),
 O 112 (.bin .geq (.t 111) (.c (I 0))),
 O 113 (.mov (.t 112)),
 OG 114 113 true (.mov (.t 4)),
 OG 115 113 true (.faddr 0 (.t 1)),
 OG 116 113 true (.load K0 (.t 115)),
 OG 117 113 true (.bin .sub (.t 116) (.c (I 800))),
 OG 118 113 true (.bin .lss (.t 114) (.t 117)),
 O 119 (.pick (.t 113) (.t 118) (.c (.b false)))] [118, 117, 116, 115, 114, 113, 112, 4, 111]) (
 .cond (.t 119) (sq (.reg [
 O 2 (.mov (.c (.b false)))] []) (
 .ret))
 (.skip))))) (
 .reg [
 O 102 (.mov (.t 3)),
 O 103 (.bin .add (.t 102) (.c (I 1))),
 O 3 (.mov (.t 103))] [103, 102]))
def L77_1 : PC :=
 sq (sq (.reg [
 O 120 (.mov (.t 5)),
 O 121 (.faddr 25 (.t 1)),
 O 122 (.load K0 (.t 121)),
 O 123 (.len false (.t 122)),
 O 124 (.bin .lss (.t 120) (.t 123)),
 O 125 (.mov (.t 124)),
 OG 126 125 true (.faddr 0 (.t 1)),
 OG 127 125 true (.load K0 (.t 126)),
 OG 128 125 true (.bin .geq (.t 127) (.c (I 0))),
 O 129 (.pick (.t 125) (.t 128) (.c (.b false))),
 O 130 (.mov (.t 129)),
 OG 131 130 true (.faddr 0 (.t 1)),
 OG 132 130 true (.load K0 (.t 131)),
 OG 133 130 true (.bin .leq (.t 132) (.c (I 73048))),
 O 134 (.pick (.t 130) (.t 133) (.c (.b false)))] [133, 132, 131, 130, 129, 128, 127, 126, 125, 124, 123, 122, 121, 120]) (
 .cond (.t 134) (.skip)
 (.exit 2))) (
 sq (.block 3 (
 sq (.regD [
 O 137 (.faddr 25 (.t 1)),
 O 138 (.load K0 (.t 137)),
 O 139 (.mov (.t 5)),
 O 140 (.iaddr (K1 11) (.t 138) (.t 139)),
 O 141 (.faddr 2 (.t 140)),
 O 142 (.load K0 (.t 141)),
 O 143 (.faddr 0 (.t 1)),
 O 144 (.load K0 (.t 143)),
 O 145 (.bin .add (.t 144) (.c (I 400))),
 O 146 (.bin .gtr (.t 142) (.t 145))] [0, 1, 0, 7, 15, 31, 0, 64, 192, 511] [145, 144, 143, 142, 141, 140, 139, 138, 137]) (
 .cond (.t 146) (sq (.reg [
 O 2 (.mov (.c (.b false)))] []) (
 .ret))
 (.skip)))) (
 .reg [
 O 135 (.mov (.t 5)),
 O 136 (.bin .add (.t 135) (.c (I 1))),
 O 5 (.mov (.t 136))] [136, 135]))
def L77_2 : PC :=
 sq (sq (.reg [
 O 147 (.mov (.t 6)),
 O 148 (.faddr 25 (.t 1)),
 O 149 (.load K0 (.t 148)),
 O 150 (.len false (.t 149)),
 O 151 (.bin .lss (.t 147) (.t 150))] [150, 149, 148, 147]) (
 .cond (.t 151) (.skip)
 (.exit 4))) (
 sq (.block 5 (
 sq (.reg [
 O 154 (.faddr 25 (.t 1)),
 O 155 (.load K0 (.t 154)),
 O 156 (.mov (.t 6)),
 O 157 (.iaddr (K1 11) (.t 155) (.t 156)),
 O 158 (.faddr 6 (.t 157)),
 O 159 (.load K0 (.t 158)),
 O 160 (.bin .gtr (.t 159) (.c (I 1099511627776)))] [159, 158, 157, 156, 155, 154]) (
 .cond (.t 160) (sq (.reg [
 O 2 (.mov (.c (.b false)))] []) (
 .ret))
 (.skip)))) (
 .reg [
 O 152 (.mov (.t 6)),
 O 153 (.bin .add (.t 152) (.c (I 1))),
 O 6 (.mov (.t 153))] [153, 152]))
def L77_3 : PC :=
 sq (sq (.reg [
 O 165 (.mov (.t 7)),
 O 166 (.faddr 26 (.t 1)),
 O 167 (.load K0 (.t 166)),
 O 168 (.len false (.t 167)),
 O 169 (.bin .lss (.t 165) (.t 168))] [168, 167, 166, 165]) (
 .cond (.t 169) (.skip)
 (.exit 6))) (
 sq (.block 7 (
 sq (.reg [
 O 172 (.faddr 26 (.t 1)),
 O 173 (.load K0 (.t 172)),
 O 174 (.mov (.t 7)),
 O 175 (.iaddr (K1 25) (.t 173) (.t 174)),
 O 176 (.faddr 23 (.t 175)),
 O 177 (.load K0 (.t 176)),
 O 178 (.len false (.t 177)),
 O 179 (.bin .gtr (.t 178) (.c (I 60))),
 O 180 (.mov (.t 179)),
 OG 181 180 false (.faddr 26 (.t 1)),
 OG 182 180 false (.load K0 (.t 181)),
 OG 183 180 false (.mov (.t 7)),
 OG 184 180 false (.iaddr (K1 25) (.t 182) (.t 183)),
 OG 185 180 false (.faddr 24 (.t 184)),
 OG 186 180 false (.load K0 (.t 185)),
 OG 187 180 false (.len false (.t 186)),
 OG 188 180 false (.bin .gtr (.t 187) (.c (I 10))),
 O 189 (.pick (.t 180) (.c (.b true)) (.t 188))] [188, 187, 186, 185, 184, 183, 182, 181, 180, 179, 178, 177, 176, 175, 174, 173, 172]) (
 .cond (.t 189) (sq (.reg [
 O 2 (.mov (.c (.b false)))] []) (
 .ret))
 (.skip)))) (
 .reg [
 O 170 (.mov (.t 7)),
 O 171 (.bin .add (.t 170) (.c (I 1))),
 O 7 (.mov (.t 171))] [171, 170]))
def F77 : PF := ⟨1, [.t 2],
 sq (.reg [
 O 1 (.box (K1 42) (.t 0)),
 O 2 (.mov (.c (.b false)))] [2, 0]) (
 sq (sq (.reg [
 O 8 (.faddr 3 (.t 1)),
 O 9 (.load (K1 22) (.t 8)),
 O 10 (.call 0 85 [(.t 9)]),
 O 11 (.un .not (.t 10)),
 O 12 (.mov (.t 11)),
 OG 13 12 false (.faddr 25 (.t 1)),
 OG 14 12 false (.load K0 (.t 13)),
 OG 15 12 false (.len false (.t 14)),
 OG 16 12 false (.bin .gtr (.t 15) (.c (I 60))),
 O 17 (.pick (.t 12) (.c (.b true)) (.t 16)),
 O 18 (.mov (.t 17)),
 OG 19 18 false (.faddr 26 (.t 1)),
 OG 20 18 false (.load K0 (.t 19)),
 OG 21 18 false (.len false (.t 20)),
 OG 22 18 false (.bin .gtr (.t 21) (.c (I 8))),
 O 23 (.pick (.t 18) (.c (.b true)) (.t 22)),
 O 24 (.mov (.t 23)),
 OG 25 24 false (.faddr 27 (.t 1)),
 OG 26 24 false (.load K0 (.t 25)),
 OG 27 24 false (.len false (.t 26)),
 OG 28 24 false (.bin .gtr (.t 27) (.c (I 20))),
 O 29 (.pick (.t 24) (.c (.b true)) (.t 28)),
 O 30 (.mov (.t 29)),
 OG 31 30 false (.faddr 28 (.t 1)),
 OG 32 30 false (.load K0 (.t 31)),
 OG 33 30 false (.len false (.t 32)),
 OG 34 30 false (.bin .gtr (.t 33) (.c (I 20))),
 O 35 (.pick (.t 30) (.c (.b true)) (.t 34)),
 O 36 (.mov (.t 35)),
 OG 37 36 false (.faddr 29 (.t 1)),
 OG 38 36 false (.load K0 (.t 37)),
 OG 39 36 false (.len false (.t 38)),
 OG 40 36 false (.bin .gtr (.t 39) (.c (I 20))),
 O 41 (.pick (.t 36) (.c (.b true)) (.t 40)),
 O 42 (.mov (.t 41)),
 OG 43 42 false (.faddr 30 (.t 1)),
 OG 44 42 false (.load K0 (.t 43)),
 OG 45 42 false (.len false (.t 44)),
 OG 46 42 false (.bin .gtr (.t 45) (.c (I 20))),
 O 47 (.pick (.t 42) (.c (.b true)) (.t 46)),
 O 48 (.mov (.t 47)),
 OG 49 48 false (.faddr 31 (.t 1)),
 OG 50 48 false (.load K0 (.t 49)),
 OG 51 48 false (.len false (.t 50)),
 OG 52 48 false (.bin .gtr (.t 51) (.c (I 40))),
 O 53 (.pick (.t 48) (.c (.b true)) (.t 52)),
 O 54 (.mov (.t 53)),
 OG 55 54 false (.faddr 32 (.t 1)),
 OG 56 54 false (.load K0 (.t 55)),
 OG 57 54 false (.len false (.t 56)),
 OG 58 54 false (.bin .gtr (.t 57) (.c (I 20))),
 O 59 (.pick (.t 54) (.c (.b true)) (.t 58)),
 O 60 (.mov (.t 59)),
 OG 61 60 false (.faddr 33 (.t 1)),
 OG 62 60 false (.load K0 (.t 61)),
 OG 63 60 false (.len false (.t 62)),
 OG 64 60 false (.bin .gtr (.t 63) (.c (I 20))),
 O 65 (.pick (.t 60) (.c (.b true)) (.t 64)),
 O 66 (.mov (.t 65)),
 OG 67 66 false (.faddr 34 (.t 1)),
 OG 68 66 false (.load K0 (.t 67)),
 OG 69 66 false (.len false (.t 68)),
 OG 70 66 false (.bin .gtr (.t 69) (.c (I 90))),
 O 71 (.pick (.t 66) (.c (.b true)) (.t 70)),
 O 72 (.mov (.t 71)),
 OG 73 72 false (.faddr 39 (.t 1)),
 OG 74 72 false (.faddr 1 (.t 73)),
 OG 75 72 false (.load K0 (.t 74)),
 OG 76 72 false (.len false (.t 75)),
 OG 77 72 false (.bin .gtr (.t 76) (.c (I 20))),
 O 78 (.pick (.t 72) (.c (.b true)) (.t 77)),
 O 79 (.mov (.t 78)),
 OG 80 79 false (.faddr 39 (.t 1)),
 OG 81 79 false (.faddr 2 (.t 80)),
 OG 82 79 false (.load K0 (.t 81)),
 OG 83 79 false (.len false (.t 82)),
 OG 84 79 false (.bin .gtr (.t 83) (.c (I 20))),
 O 85 (.pick (.t 79) (.c (.b true)) (.t 84))] [84, 83, 82, 81, 80, 79, 78, 77, 76, 75, 74, 73, 72, 71, 70, 69, 68, 67, 66, 65, 64, 63, 62, 61, 60, 59, 58, 57, 56, 55, 54, 53, 52, 51, 50, 49, 48, 47, 46, 45, 44, 43, 42, 41, 40, 39, 38, 37, 36, 35, 34, 33, 32, 31, 30, 29, 28, 27, 26, 25, 24, 23, 22, 21, 20, 19, 18, 17, 16, 15, 14, 13, 12, 11, 10, 9, 8]) (
 .cond (.t 85) (sq (.reg [
 O 2 (.mov (.c (.b false)))] []) (
 .ret))
 (.skip))) (
 sq (sq (.reg [
 O 3 (.mov (.c (I 0)))] []) (
 .block 0 (
 .loop [1, 3] L77_0))) (
 sq (sq (.reg [
 O 5 (.mov (.c (I 0)))] []) (
 .block 2 (
 .loop [1, 5] L77_1))) (
 sq (sq (.reg [
 O 6 (.mov (.c (I 0)))] []) (
 .block 4 (
 .loop [1, 6] L77_2))) (
 sq (sq (.reg [
 O 161 (.faddr 35 (.t 1)),
 O 162 (.faddr 3 (.t 161)),
 O 163 (.load K0 (.t 162)),
 O 164 (.bin .gtr (.t 163) (.c (I 1099511627776)))] [163, 162, 161]) (
 .cond (.t 164) (sq (.reg [
 O 2 (.mov (.c (.b false)))] []) (
 .ret))
 (.skip))) (
 sq (sq (.reg [
 O 7 (.mov (.c (I 0)))] []) (
 .block 6 (
 .loop [1, 7] L77_3))) (
 sq (.reg [
 O 2 (.mov (.c (.b true)))] []) (
 .ret))))))))⟩
def F81 : PF := ⟨2, [.t 4],
 sq (.reg [
 O 2 (.box (K1 25) (.t 0)),
 O 3 (.box (K1 25) (.t 1)),
 O 4 (.mov (.c (.b false)))] [4, 1, 0]) (
 sq (.reg [
 O 5 (.faddr 0 (.t 2)),
 O 6 (.load K0 (.t 5)),
 O 7 (.faddr 0 (.t 3)),
 O 8 (.load K0 (.t 7)),
 O 9 (.bin .eql (.t 6) (.t 8)),
 O 10 (.mov (.t 9)),
 OG 11 10 true (.faddr 1 (.t 2)),
 OG 12 10 true (.load K0 (.t 11)),
 OG 13 10 true (.faddr 1 (.t 3)),
 OG 14 10 true (.load K0 (.t 13)),
 OG 15 10 true (.bin .eql (.t 12) (.t 14)),
 O 16 (.pick (.t 10) (.t 15) (.c (.b false))),
 O 17 (.mov (.t 16)),
 OG 18 17 true (.faddr 2 (.t 2)),
 OG 19 17 true (.load K0 (.t 18)),
 OG 20 17 true (.faddr 2 (.t 3)),
 OG 21 17 true (.load K0 (.t 20)),
 OG 22 17 true (.bin .eql (.t 19) (.t 21)),
 O 23 (.pick (.t 17) (.t 22) (.c (.b false))),
 O 24 (.mov (.t 23)),
 OG 25 24 true (.faddr 3 (.t 2)),
 OG 26 24 true (.load K0 (.t 25)),
 OG 27 24 true (.faddr 3 (.t 3)),
 OG 28 24 true (.load K0 (.t 27)),
 OG 29 24 true (.bin .eql (.t 26) (.t 28)),
 O 30 (.pick (.t 24) (.t 29) (.c (.b false))),
 O 31 (.mov (.t 30)),
 OG 32 31 true (.faddr 4 (.t 2)),
 OG 33 31 true (.load K0 (.t 32)),
 OG 34 31 true (.faddr 4 (.t 3)),
 OG 35 31 true (.load K0 (.t 34)),
 OG 36 31 true (.bin .eql (.t 33) (.t 35)),
 O 37 (.pick (.t 31) (.t 36) (.c (.b false))),
 O 38 (.mov (.t 37)),
 OG 39 38 true (.faddr 5 (.t 2)),
 OG 40 38 true (.load K0 (.t 39)),
 OG 41 38 true (.faddr 5 (.t 3)),
 OG 42 38 true (.load K0 (.t 41)),
 OG 43 38 true (.bin .eql (.t 40) (.t 42)),
 O 44 (.pick (.t 38) (.t 43) (.c (.b false))),
 O 45 (.mov (.t 44)),
 OG 46 45 true (.faddr 6 (.t 2)),
 OG 47 45 true (.load K0 (.t 46)),
 OG 48 45 true (.faddr 6 (.t 3)),
 OG 49 45 true (.load K0 (.t 48)),
 OG 50 45 true (.bin .eql (.t 47) (.t 49)),
 O 51 (.pick (.t 45) (.t 50) (.c (.b false))),
 O 52 (.mov (.t 51)),
 OG 53 52 true (.faddr 7 (.t 2)),
 OG 54 52 true (.load K0 (.t 53)),
 OG 55 52 true (.faddr 7 (.t 3)),
 OG 56 52 true (.load K0 (.t 55)),
 OG 57 52 true (.bin .eql (.t 54) (.t 56)),
 O 58 (.pick (.t 52) (.t 57) (.c (.b false))),
 O 59 (.mov (.t 58)),
 OG 60 59 true (.faddr 8 (.t 2)),
 OG 61 59 true (.load K0 (.t 60)),
 OG 62 59 true (.faddr 8 (.t 3)),
 OG 63 59 true (.load K0 (.t 62)),
 OG 64 59 true (.bin .eql (.t 61) (.t 63)),
 O 65 (.pick (.t 59) (.t 64) (.c (.b false))),
 O 66 (.mov (.t 65)),
 OG 67 66 true (.faddr 9 (.t 2)),
 OG 68 66 true (.load K0 (.t 67)),
 OG 69 66 true (.faddr 9 (.t 3)),
 OG 70 66 true (.load K0 (.t 69)),
 OG 71 66 true (.bin .eql (.t 68) (.t 70)),
 O 72 (.pick (.t 66) (.t 71) (.c (.b false))),
 O 73 (.mov (.t 72)),
 OG 74 73 true (.faddr 10 (.t 2)),
 OG 75 73 true (.load K0 (.t 74)),
 OG 76 73 true (.faddr 10 (.t 3)),
 OG 77 73 true (.load K0 (.t 76)),
 OG 78 73 true (.bin .eql (.t 75) (.t 77)),
 O 79 (.pick (.t 73) (.t 78) (.c (.b false))),
 O 80 (.mov (.t 79)),
 OG 81 80 true (.faddr 11 (.t 2)),
 OG 82 80 true (.load (K1 12) (.t 81)),
 OG 83 80 true (.faddr 11 (.t 3)),
 OG 84 80 true (.load (K1 12) (.t 83)),
 OG 85 80 true (.eqv false [1, 1, 1, 1, 1, 1, 1, 1, 1, 1, 3, 3] (.t 82) (.t 84)),
 O 86 (.pick (.t 80) (.t 85) (.c (.b false))),
 O 87 (.mov (.t 86)),
 OG 88 87 true (.faddr 23 (.t 2)),
 OG 89 87 true (.load K0 (.t 88)),
 OG 90 87 true (.faddr 23 (.t 3)),
 OG 91 87 true (.load K0 (.t 90)),
 OG 92 87 true (.call 0 95 [(.t 89), (.t 91)]),
 O 93 (.pick (.t 87) (.t 92) (.c (.b false))),
 O 94 (.mov (.t 93)),
 OG 95 94 true (.faddr 24 (.t 2)),
 OG 96 94 true (.load K0 (.t 95)),
 OG 97 94 true (.faddr 24 (.t 3)),
 OG 98 94 true (.load K0 (.t 97)),
 OG 99 94 true (.call 0 96 [(.t 96), (.t 98)]),
 O 100 (.pick (.t 94) (.t 99) (.c (.b false))),
 O 4 (.mov (.t 100))] [100, 99, 98, 97, 96, 95, 94, 93, 92, 91, 90, 89, 88, 87, 86, 85, 84, 83, 82, 81, 80, 79, 78, 77, 76, 75, 74, 73, 72, 71, 70, 69, 68, 67, 66, 65, 64, 63, 62, 61, 60, 59, 58, 57, 56, 55, 54, 53, 52, 51, 50, 49, 48, 47, 46, 45, 44, 43, 42, 41, 40, 39, 38, 37, 36, 35, 34, 33, 32, 31, 30, 29, 28, 27, 26, 25, 24, 23, 22, 21, 20, 19, 18, 17, 16, 15, 14, 13, 12, 11, 10, 9, 8, 3, 7, 6, 2, 5]) (
 .ret))⟩
def F82 : PF := ⟨2, [.t 4],
 sq (.reg [
 O 2 (.box (K1 42) (.t 0)),
 O 3 (.box (K1 42) (.t 1)),
 O 4 (.mov (.c (.b false)))] [4, 1, 0]) (
 sq (sq (.reg [
 O 5 (.faddr 0 (.t 2)),
 O 6 (.load K0 (.t 5)),
 O 7 (.faddr 0 (.t 3)),
 O 8 (.load K0 (.t 7)),
 O 9 (.bin .neq (.t 6) (.t 8)),
 O 10 (.mov (.t 9)),
 OG 11 10 false (.faddr 1 (.t 2)),
 OG 12 10 false (.load K0 (.t 11)),
 OG 13 10 false (.faddr 1 (.t 3)),
 OG 14 10 false (.load K0 (.t 13)),
 OG 15 10 false (.bin .neq (.t 12) (.t 14)),
 O 16 (.pick (.t 10) (.c (.b true)) (.t 15)),
 O 17 (.mov (.t 16)),
 OG 18 17 false (.faddr 2 (.t 2)),
 OG 19 17 false (.load K0 (.t 18)),
 OG 20 17 false (.faddr 2 (.t 3)),
 OG 21 17 false (.load K0 (.t 20)),
 OG 22 17 false (.bin .neq (.t 19) (.t 21)),
 O 23 (.pick (.t 17) (.c (.b true)) (.t 22)),
 O 24 (.mov (.t 23)),
 OG 25 24 false (.faddr 35 (.t 2)),
 OG 26 24 false (.load (K1 4) (.t 25)),
 OG 27 24 false (.faddr 35 (.t 3)),
 OG 28 24 false (.load (K1 4) (.t 27)),
 OG 29 24 false (.eqv true [2, 1, 1, 1] (.t 26) (.t 28)),
 O 30 (.pick (.t 24) (.c (.b true)) (.t 29)),
 O 31 (.mov (.t 30)),
 OG 32 31 false (.faddr 3 (.t 2)),
 OG 33 31 false (.load (K1 22) (.t 32)),
 OG 34 31 false (.faddr 3 (.t 3)),
 OG 35 31 false (.load (K1 22) (.t 34)),
 OG 36 31 false (.call 0 97 [(.t 33), (.t 35)]),
 OG 37 31 false (.un .not (.t 36)),
 O 38 (.pick (.t 31) (.c (.b true)) (.t 37))] [37, 36, 35, 34, 33, 32, 31, 30, 29, 28, 27, 26, 25, 24, 23, 22, 21, 20, 19, 18, 17, 16, 15, 14, 13, 12, 11, 10, 9, 8, 7, 6, 5]) (
 .cond (.t 38) (sq (.reg [
 O 4 (.mov (.c (.b false)))] []) (
 .ret))
 (.skip))) (
 sq (.reg [
 O 39 (.load (K1 42) (.t 2)),
 O 40 (.load (K1 42) (.t 3)),
 O 41 (.call 0 98 [(.t 39), (.t 40)]),
 O 42 (.mov (.t 41)),
 OG 43 42 true (.load (K1 42) (.t 2)),
 OG 44 42 true (.load (K1 42) (.t 3)),
 OG 45 42 true (.call 0 99 [(.t 43), (.t 44)]),
 O 46 (.pick (.t 42) (.t 45) (.c (.b false))),
 O 4 (.mov (.t 46))] [46, 45, 44, 43, 42, 41, 3, 40, 2, 39]) (
 .ret)))⟩
def L85_0 : PC :=
 sq (sq (.reg [
 O 51 (.mov (.t 3)),
 O 52 (.faddr 1 (.t 1)),
 O 53 (.load K0 (.t 52)),
 O 54 (.len false (.t 53)),
 O 55 (.bin .lss (.t 51) (.t 54))] [54, 53, 52, 51]) (
 .cond (.t 55) (.skip)
 (.exit 0))) (
 sq (.block 1 (
 sq (.reg [
 O 58 (.faddr 1 (.t 1)),
 O 59 (.load K0 (.t 58)),
 O 60 (.mov (.t 3)),
 O 61 (.iaddr (K1 3) (.t 59) (.t 60)),
 O 62 (.faddr 2 (.t 61)),
 O 63 (.load K0 (.t 62)),
 O 64 (.len false (.t 63)),
 O 65 (.bin .gtr (.t 64) (.c (I 40))),
 O 66 (.mov (.t 65)),
 OG 67 66 false (.faddr 1 (.t 1)),
 OG 68 66 false (.load K0 (.t 67)),
 OG 69 66 false (.mov (.t 3)),
 OG 70 66 false (.iaddr (K1 3) (.t 68) (.t 69)),
 OG 71 66 false (.faddr 1 (.t 70)),
 OG 72 66 false (.load K0 (.t 71)),
 OG 73 66 false (.len false (.t 72)),
 OG 74 66 false (.bin .gtr (.t 73) (.c (I 10))),
 O 75 (.pick (.t 66) (.c (.b true)) (.t 74))] [74, 73, 72, 71, 70, 69, 68, 67, 66, 65, 64, 63, 62, 61, 60, 59, 58]) (
 .cond (.t 75) (sq (.reg [
 O 2 (.mov (.c (.b false)))] []) (
 .ret))
 (.skip)))) (
 .reg [
 O 56 (.mov (.t 3)),
 O 57 (.bin .add (.t 56) (.c (I 1))),
 O 3 (.mov (.t 57))] [57, 56]))
def L85_1 : PC :=
 sq (sq (.reg [
 O 76 (.mov (.t 4)),
 O 77 (.faddr 19 (.t 1)),
 O 78 (.load K0 (.t 77)),
 O 79 (.len false (.t 78)),
 O 80 (.bin .lss (.t 76) (.t 79))] [79, 78, 77, 76]) (
 .cond (.t 80) (.skip)
 (.exit 2))) (
 sq (.block 3 (
 sq (.reg [
 O 83 (.faddr 19 (.t 1)),
 O 84 (.load K0 (.t 83)),
 O 85 (.mov (.t 4)),
 O 86 (.iaddr (K1 10) (.t 84) (.t 85)),
 O 87 (.faddr 8 (.t 86)),
 O 88 (.load K0 (.t 87)),
 O 89 (.len false (.t 88)),
 O 90 (.bin .gtr (.t 89) (.c (I 12)))] [89, 88, 87, 86, 85, 84, 83]) (
 .cond (.t 90) (sq (.reg [
 O 2 (.mov (.c (.b false)))] []) (
 .ret))
 (.skip)))) (
 .reg [
 O 81 (.mov (.t 4)),
 O 82 (.bin .add (.t 81) (.c (I 1))),
 O 4 (.mov (.t 82))] [82, 81]))
def F85 : PF := ⟨1, [.t 2],
 sq (.reg [
 O 1 (.box (K1 22) (.t 0)),
 O 2 (.mov (.c (.b false)))] [2, 0]) (
 sq (sq (.reg [
 O 5 (.faddr 18 (.t 1)),
 O 6 (.load K0 (.t 5)),
 O 7 (.len false (.t 6)),
 O 8 (.bin .gtr (.t 7) (.c (I 8))),
 O 9 (.mov (.t 8)),
 OG 10 9 false (.faddr 19 (.t 1)),
 OG 11 9 false (.load K0 (.t 10)),
 OG 12 9 false (.len false (.t 11)),
 OG 13 9 false (.bin .gtr (.t 12) (.c (I 90))),
 O 14 (.pick (.t 9) (.c (.b true)) (.t 13)),
 O 15 (.mov (.t 14)),
 OG 16 15 false (.faddr 2 (.t 1)),
 OG 17 15 false (.load K0 (.t 16)),
 OG 18 15 false (.len false (.t 17)),
 OG 19 15 false (.bin .gtr (.t 18) (.c (I 40))),
 O 20 (.pick (.t 15) (.c (.b true)) (.t 19)),
 O 21 (.mov (.t 20)),
 OG 22 21 false (.faddr 17 (.t 1)),
 OG 23 21 false (.load K0 (.t 22)),
 OG 24 21 false (.len false (.t 23)),
 OG 25 21 false (.bin .gtr (.t 24) (.c (I 12))),
 O 26 (.pick (.t 21) (.c (.b true)) (.t 25)),
 O 27 (.mov (.t 26)),
 OG 28 27 false (.faddr 1 (.t 1)),
 OG 29 27 false (.load K0 (.t 28)),
 OG 30 27 false (.len false (.t 29)),
 OG 31 27 false (.bin .gtr (.t 30) (.c (I 4))),
 O 32 (.pick (.t 27) (.c (.b true)) (.t 31)),
 O 33 (.mov (.t 32)),
 OG 34 33 false (.faddr 20 (.t 1)),
 OG 35 33 false (.load K0 (.t 34)),
 OG 36 33 false (.len false (.t 35)),
 OG 37 33 false (.bin .gtr (.t 36) (.c (I 20))),
 O 38 (.pick (.t 33) (.c (.b true)) (.t 37)),
 O 39 (.mov (.t 38)),
 OG 40 39 false (.faddr 21 (.t 1)),
 OG 41 39 false (.load K0 (.t 40)),
 OG 42 39 false (.len false (.t 41)),
 OG 43 39 false (.bin .gtr (.t 42) (.c (I 20))),
 O 44 (.pick (.t 39) (.c (.b true)) (.t 43)),
 O 45 (.mov (.t 44)),
 OG 46 45 false (.faddr 0 (.t 1)),
 OG 47 45 false (.load K0 (.t 46)),
 OG 48 45 false (.len false (.t 47)),
 OG 49 45 false (.bin .gtr (.t 48) (.c (I 8))),
 O 50 (.pick (.t 45) (.c (.b true)) (.t 49))] [49, 48, 47, 46, 45, 44, 43, 42, 41, 40, 39, 38, 37, 36, 35, 34, 33, 32, 31, 30, 29, 28, 27, 26, 25, 24, 23, 22, 21, 20, 19, 18, 17, 16, 15, 14, 13, 12, 11, 10, 9, 8, 7, 6, 5]) (
 .cond (.t 50) (sq (.reg [
 O 2 (.mov (.c (.b false)))] []) (
 .ret))
 (.skip))) (
 sq (sq (.reg [
 O 3 (.mov (.c (I 0)))] []) (
 .block 0 (
 .loop [1, 3] L85_0))) (
 sq (sq (.reg [
 O 4 (.mov (.c (I 0)))] []) (
 .block 2 (
 .loop [1, 4] L85_1))) (
 sq (.reg [
 O 2 (.mov (.c (.b true)))] []) (
 .ret)))))⟩
def L95_0 : PC :=
 sq (sq (.reg [
 O 11 (.mov (.t 5)),
 O 12 (.mov (.t 0)),
 O 13 (.len false (.t 12)),
 O 14 (.bin .lss (.t 11) (.t 13))] [13, 12, 11]) (
 .cond (.t 14) (.skip)
 (.exit 0))) (
 sq (.block 1 (
 sq (.regD [
 O 17 (.mov (.t 0)),
 O 18 (.mov (.t 5)),
 O 19 (.iaddr (K1 4) (.t 17) (.t 18)),
 O 20 (.load (K1 4) (.t 19)),
 O 21 (.mov (.t 1)),
 O 22 (.mov (.t 5)),
 O 23 (.iaddr (K1 4) (.t 21) (.t 22)),
 O 24 (.load (K1 4) (.t 23)),
 O 25 (.eqv true [1, 1, 1, 1] (.t 20) (.t 24))] [0, 0, 3, 7, 0, 0, 48, 112, 255] [24, 23, 22, 21, 20, 19, 18, 17]) (
 .cond (.t 25) (sq (.reg [
 O 4 (.mov (.c (.b false)))] []) (
 .ret))
 (.skip)))) (
 .reg [
 O 15 (.mov (.t 5)),
 O 16 (.bin .add (.t 15) (.c (I 1))),
 O 5 (.mov (.t 16))] [16, 15]))
def F95 : PF := ⟨2, [.t 4],
 sq (.reg [
 O 4 (.mov (.c (.b false)))] [4]) (
 sq (sq (.reg [
 O 6 (.mov (.t 0)),
 O 7 (.len false (.t 6)),
 O 8 (.mov (.t 1)),
 O 9 (.len false (.t 8)),
 O 10 (.bin .neq (.t 7) (.t 9))] [9, 8, 7, 6]) (
 .cond (.t 10) (sq (.reg [
 O 4 (.mov (.c (.b false)))] []) (
 .ret))
 (.skip))) (
 sq (sq (.reg [
 O 5 (.mov (.c (I 0)))] []) (
 .block 0 (
 .loop [0, 1, 5] L95_0))) (
 sq (.reg [
 O 4 (.mov (.c (.b true)))] []) (
 .ret))))⟩
def L96_0 : PC :=
 sq (sq (.reg [
 O 11 (.mov (.t 5)),
 O 12 (.mov (.t 0)),
 O 13 (.len false (.t 12)),
 O 14 (.bin .lss (.t 11) (.t 13))] [13, 12, 11]) (
 .cond (.t 14) (.skip)
 (.exit 0))) (
 sq (.block 1 (
 sq (.regD [
 O 17 (.mov (.t 0)),
 O 18 (.mov (.t 5)),
 O 19 (.iaddr (K1 14) (.t 17) (.t 18)),
 O 20 (.load (K1 14) (.t 19)),
 O 21 (.mov (.t 1)),
 O 22 (.mov (.t 5)),
 O 23 (.iaddr (K1 14) (.t 21) (.t 22)),
 O 24 (.load (K1 14) (.t 23)),
 O 25 (.eqv true [1, 1, 1, 1, 1, 1, 1, 1, 1, 1, 1, 1, 3, 3] (.t 20) (.t 24))] [0, 0, 3, 7, 0, 0, 48, 112, 255] [24, 23, 22, 21, 20, 19, 18, 17]) (
 .cond (.t 25) (sq (.reg [
 O 4 (.mov (.c (.b false)))] []) (
 .ret))
 (.skip)))) (
 .reg [
 O 15 (.mov (.t 5)),
 O 16 (.bin .add (.t 15) (.c (I 1))),
 O 5 (.mov (.t 16))] [16, 15]))
def F96 : PF := ⟨2, [.t 4],
 sq (.reg [
 O 4 (.mov (.c (.b false)))] [4]) (
 sq (sq (.reg [
 O 6 (.mov (.t 0)),
 O 7 (.len false (.t 6)),
 O 8 (.mov (.t 1)),
 O 9 (.len false (.t 8)),
 O 10 (.bin .neq (.t 7) (.t 9))] [9, 8, 7, 6]) (
 .cond (.t 10) (sq (.reg [
 O 4 (.mov (.c (.b false)))] []) (
 .ret))
 (.skip))) (
 sq (sq (.reg [
 O 5 (.mov (.c (I 0)))] []) (
 .block 0 (
 .loop [0, 1, 5] L96_0))) (
 sq (.reg [
 O 4 (.mov (.c (.b true)))] []) (
 .ret))))⟩
def L97_0 : PC :=
 sq (sq (.reg [
 O 47 (.mov (.t 5)),
 O 48 (.faddr 19 (.t 2)),
 O 49 (.load K0 (.t 48)),
 O 50 (.len false (.t 49)),
 O 51 (.bin .lss (.t 47) (.t 50))] [50, 49, 48, 47]) (
 .cond (.t 51) (.skip)
 (.exit 0))) (
 sq (.block 1 (
 sq (.regD [
 O 54 (.faddr 19 (.t 2)),
 O 55 (.load K0 (.t 54)),
 O 56 (.mov (.t 5)),
 O 57 (.iaddr (K1 10) (.t 55) (.t 56)),
 O 58 (.load (K1 10) (.t 57)),
 O 59 (.faddr 19 (.t 3)),
 O 60 (.load K0 (.t 59)),
 O 61 (.mov (.t 5)),
 O 62 (.iaddr (K1 10) (.t 60) (.t 61)),
 O 63 (.load (K1 10) (.t 62)),
 O 64 (.call 0 9 [(.t 58), (.t 63)]),
 O 65 (.un .not (.t 64))] [0, 1, 0, 7, 15, 0, 32, 0, 224, 480, 1023, 2047] [64, 63, 62, 61, 60, 59, 58, 57, 56, 55, 54]) (
 .cond (.t 65) (sq (.reg [
 O 4 (.mov (.c (.b false)))] []) (
 .ret))
 (.skip)))) (
 .reg [
 O 52 (.mov (.t 5)),
 O 53 (.bin .add (.t 52) (.c (I 1))),
 O 5 (.mov (.t 53))] [53, 52]))
def L97_1 : PC :=
 sq (sq (.reg [
 O 66 (.mov (.t 6)),
 O 67 (.faddr 20 (.t 2)),
 O 68 (.load K0 (.t 67)),
 O 69 (.len false (.t 68)),
 O 70 (.bin .lss (.t 66) (.t 69))] [69, 68, 67, 66]) (
 .cond (.t 70) (.skip)
 (.exit 2))) (
 sq (.block 3 (
 sq (.regD [
 O 73 (.faddr 20 (.t 2)),
 O 74 (.load K0 (.t 73)),
 O 75 (.mov (.t 6)),
 O 76 (.iaddr (K1 6) (.t 74) (.t 75)),
 O 77 (.load (K1 6) (.t 76)),
 O 78 (.faddr 20 (.t 3)),
 O 79 (.load K0 (.t 78)),
 O 80 (.mov (.t 6)),
 O 81 (.iaddr (K1 6) (.t 79) (.t 80)),
 O 82 (.load (K1 6) (.t 81)),
 O 83 (.eqv true [1, 1, 1, 1, 1, 3] (.t 77) (.t 82))] [0, 1, 0, 7, 15, 0, 32, 0, 224, 480, 1023] [82, 81, 80, 79, 78, 77, 76, 75, 74, 73]) (
 .cond (.t 83) (sq (.reg [
 O 4 (.mov (.c (.b false)))] []) (
 .ret))
 (.skip)))) (
 .reg [
 O 71 (.mov (.t 6)),
 O 72 (.bin .add (.t 71) (.c (I 1))),
 O 6 (.mov (.t 72))] [72, 71]))
def L97_2 : PC :=
 sq (sq (.reg [
 O 84 (.mov (.t 7)),
 O 85 (.faddr 21 (.t 2)),
 O 86 (.load K0 (.t 85)),
 O 87 (.len false (.t 86)),
 O 88 (.bin .lss (.t 84) (.t 87))] [87, 86, 85, 84]) (
 .cond (.t 88) (.skip)
 (.exit 4))) (
 sq (.block 5 (
 sq (.regD [
 O 91 (.faddr 21 (.t 2)),
 O 92 (.load K0 (.t 91)),
 O 93 (.mov (.t 7)),
 O 94 (.iaddr (K1 7) (.t 92) (.t 93)),
 O 95 (.load (K1 7) (.t 94)),
 O 96 (.faddr 21 (.t 3)),
 O 97 (.load K0 (.t 96)),
 O 98 (.mov (.t 7)),
 O 99 (.iaddr (K1 7) (.t 97) (.t 98)),
 O 100 (.load (K1 7) (.t 99)),
 O 101 (.eqv true [1, 1, 1, 1, 1, 1, 3] (.t 95) (.t 100))] [0, 1, 0, 7, 15, 0, 32, 0, 224, 480, 1023] [100, 99, 98, 97, 96, 95, 94, 93, 92, 91]) (
 .cond (.t 101) (sq (.reg [
 O 4 (.mov (.c (.b false)))] []) (
 .ret))
 (.skip)))) (
 .reg [
 O 89 (.mov (.t 7)),
 O 90 (.bin .add (.t 89) (.c (I 1))),
 O 7 (.mov (.t 90))] [90, 89]))
def F97 : PF := ⟨2, [.t 4],
 sq (.reg [
 O 2 (.box (K1 22) (.t 0)),
 O 3 (.box (K1 22) (.t 1)),
 O 4 (.mov (.c (.b false)))] [4, 1, 0]) (
 sq (sq (.reg [
 O 8 (.load (K1 22) (.t 2)),
 O 9 (.load (K1 22) (.t 3)),
 O 10 (.call 0 139 [(.t 8), (.t 9)]),
 O 11 (.un .not (.t 10)),
 O 12 (.mov (.t 11)),
 OG 13 12 false (.faddr 18 (.t 2)),
 OG 14 12 false (.load K0 (.t 13)),
 OG 15 12 false (.faddr 18 (.t 3)),
 OG 16 12 false (.load K0 (.t 15)),
 OG 17 12 false (.call 0 140 [(.t 14), (.t 16)]),
 OG 18 12 false (.un .not (.t 17)),
 O 19 (.pick (.t 12) (.c (.b true)) (.t 18)),
 O 20 (.mov (.t 19)),
 OG 21 20 false (.faddr 19 (.t 2)),
 OG 22 20 false (.load K0 (.t 21)),
 OG 23 20 false (.len false (.t 22)),
 OG 24 20 false (.faddr 19 (.t 3)),
 OG 25 20 false (.load K0 (.t 24)),
 OG 26 20 false (.len false (.t 25)),
 OG 27 20 false (.bin .neq (.t 23) (.t 26)),
 O 28 (.pick (.t 20) (.c (.b true)) (.t 27)),
 O 29 (.mov (.t 28)),
 OG 30 29 false (.faddr 20 (.t 2)),
 OG 31 29 false (.load K0 (.t 30)),
 OG 32 29 false (.len false (.t 31)),
 OG 33 29 false (.faddr 20 (.t 3)),
 OG 34 29 false (.load K0 (.t 33)),
 OG 35 29 false (.len false (.t 34)),
 OG 36 29 false (.bin .neq (.t 32) (.t 35)),
 O 37 (.pick (.t 29) (.c (.b true)) (.t 36)),
 O 38 (.mov (.t 37)),
 OG 39 38 false (.faddr 21 (.t 2)),
 OG 40 38 false (.load K0 (.t 39)),
 OG 41 38 false (.len false (.t 40)),
 OG 42 38 false (.faddr 21 (.t 3)),
 OG 43 38 false (.load K0 (.t 42)),
 OG 44 38 false (.len false (.t 43)),
 OG 45 38 false (.bin .neq (.t 41) (.t 44)),
 O 46 (.pick (.t 38) (.c (.b true)) (.t 45))] [45, 44, 43, 42, 41, 40, 39, 38, 37, 36, 35, 34, 33, 32, 31, 30, 29, 28, 27, 26, 25, 24, 23, 22, 21, 20, 19, 18, 17, 16, 15, 14, 13, 12, 11, 10, 9, 8]) (
 .cond (.t 46) (sq (.reg [
 O 4 (.mov (.c (.b false)))] []) (
 .ret))
 (.skip))) (
 sq (sq (.reg [
 O 5 (.mov (.c (I 0)))] []) (
 .block 0 (
 .loop [2, 3, 5] L97_0))) (
 sq (sq (.reg [
 O 6 (.mov (.c (I 0)))] []) (
 .block 2 (
 .loop [2, 3, 6] L97_1))) (
 sq (sq (.reg [
 O 7 (.mov (.c (I 0)))] []) (
 .block 4 (
 .loop [2, 3, 7] L97_2))) (
 sq (.reg [
 O 4 (.mov (.c (.b true)))] []) (
 .ret))))))⟩
def L98_0 : PC :=
 sq (sq (.reg [
 O 31 (.mov (.t 5)),
 O 32 (.faddr 26 (.t 2)),
 O 33 (.load K0 (.t 32)),
 O 34 (.len false (.t 33)),
 O 35 (.bin .lss (.t 31) (.t 34))] [34, 33, 32, 31]) (
 .cond (.t 35) (.skip)
 (.exit 0))) (
 sq (.block 1 (
 sq (.regD [
 O 38 (.faddr 26 (.t 2)),
 O 39 (.load K0 (.t 38)),
 O 40 (.mov (.t 5)),
 O 41 (.iaddr (K1 25) (.t 39) (.t 40)),
 O 42 (.load (K1 25) (.t 41)),
 O 43 (.faddr 26 (.t 3)),
 O 44 (.load K0 (.t 43)),
 O 45 (.mov (.t 5)),
 O 46 (.iaddr (K1 25) (.t 44) (.t 45)),
 O 47 (.load (K1 25) (.t 46)),
 O 48 (.call 0 81 [(.t 42), (.t 47)]),
 O 49 (.un .not (.t 48))] [0, 1, 0, 7, 15, 0, 32, 0, 224, 480, 1023, 2047] [48, 47, 46, 45, 44, 43, 42, 41, 40, 39, 38]) (
 .cond (.t 49) (sq (.reg [
 O 4 (.mov (.c (.b false)))] []) (
 .ret))
 (.skip)))) (
 .reg [
 O 36 (.mov (.t 5)),
 O 37 (.bin .add (.t 36) (.c (I 1))),
 O 5 (.mov (.t 37))] [37, 36]))
def L98_1 : PC :=
 sq (sq (.reg [
 O 50 (.mov (.t 6)),
 O 51 (.faddr 31 (.t 2)),
 O 52 (.load K0 (.t 51)),
 O 53 (.len false (.t 52)),
 O 54 (.bin .lss (.t 50) (.t 53))] [53, 52, 51, 50]) (
 .cond (.t 54) (.skip)
 (.exit 2))) (
 sq (.block 3 (
 sq (.regD [
 O 57 (.faddr 31 (.t 2)),
 O 58 (.load K0 (.t 57)),
 O 59 (.mov (.t 6)),
 O 60 (.iaddr (K1 7) (.t 58) (.t 59)),
 O 61 (.load (K1 7) (.t 60)),
 O 62 (.faddr 31 (.t 3)),
 O 63 (.load K0 (.t 62)),
 O 64 (.mov (.t 6)),
 O 65 (.iaddr (K1 7) (.t 63) (.t 64)),
 O 66 (.load (K1 7) (.t 65)),
 O 67 (.call 0 142 [(.t 61), (.t 66)]),
 O 68 (.un .not (.t 67))] [0, 1, 0, 7, 15, 0, 32, 0, 224, 480, 1023, 2047] [67, 66, 65, 64, 63, 62, 61, 60, 59, 58, 57]) (
 .cond (.t 68) (sq (.reg [
 O 4 (.mov (.c (.b false)))] []) (
 .ret))
 (.skip)))) (
 .reg [
 O 55 (.mov (.t 6)),
 O 56 (.bin .add (.t 55) (.c (I 1))),
 O 6 (.mov (.t 56))] [56, 55]))
def F98 : PF := ⟨2, [.t 4],
 sq (.reg [
 O 2 (.box (K1 42) (.t 0)),
 O 3 (.box (K1 42) (.t 1)),
 O 4 (.mov (.c (.b false)))] [4, 1, 0]) (
 sq (sq (.reg [
 O 7 (.faddr 25 (.t 2)),
 O 8 (.load K0 (.t 7)),
 O 9 (.faddr 25 (.t 3)),
 O 10 (.load K0 (.t 9)),
 O 11 (.call 0 141 [(.t 8), (.t 10)]),
 O 12 (.un .not (.t 11)),
 O 13 (.mov (.t 12)),
 OG 14 13 false (.faddr 26 (.t 2)),
 OG 15 13 false (.load K0 (.t 14)),
 OG 16 13 false (.len false (.t 15)),
 OG 17 13 false (.faddr 26 (.t 3)),
 OG 18 13 false (.load K0 (.t 17)),
 OG 19 13 false (.len false (.t 18)),
 OG 20 13 false (.bin .neq (.t 16) (.t 19)),
 O 21 (.pick (.t 13) (.c (.b true)) (.t 20)),
 O 22 (.mov (.t 21)),
 OG 23 22 false (.faddr 31 (.t 2)),
 OG 24 22 false (.load K0 (.t 23)),
 OG 25 22 false (.len false (.t 24)),
 OG 26 22 false (.faddr 31 (.t 3)),
 OG 27 22 false (.load K0 (.t 26)),
 OG 28 22 false (.len false (.t 27)),
 OG 29 22 false (.bin .neq (.t 25) (.t 28)),
 O 30 (.pick (.t 22) (.c (.b true)) (.t 29))] [29, 28, 27, 26, 25, 24, 23, 22, 21, 20, 19, 18, 17, 16, 15, 14, 13, 12, 11, 10, 9, 8, 7]) (
 .cond (.t 30) (sq (.reg [
 O 4 (.mov (.c (.b false)))] []) (
 .ret))
 (.skip))) (
 sq (sq (.reg [
 O 5 (.mov (.c (I 0)))] []) (
 .block 0 (
 .loop [2, 3, 5] L98_0))) (
 sq (sq (.reg [
 O 6 (.mov (.c (I 0)))] []) (
 .block 2 (
 .loop [2, 3, 6] L98_1))) (
 sq (.reg [
 O 69 (.load (K1 42) (.t 2)),
 O 70 (.load (K1 42) (.t 3)),
 O 71 (.call 0 143 [(.t 69), (.t 70)]),
 O 4 (.mov (.t 71))] [71, 3, 70, 2, 69]) (
 .ret)))))⟩
def L99_0 : PC :=
 sq (sq (.reg [
 O 67 (.mov (.t 5)),
 O 68 (.faddr 32 (.t 2)),
 O 69 (.load K0 (.t 68)),
 O 70 (.len false (.t 69)),
 O 71 (.bin .lss (.t 67) (.t 70))] [70, 69, 68, 67]) (
 .cond (.t 71) (.skip)
 (.exit 0))) (
 sq (.block 1 (
 sq (.regD [
 O 74 (.faddr 32 (.t 2)),
 O 75 (.load K0 (.t 74)),
 O 76 (.mov (.t 5)),
 O 77 (.iaddr (K1 3) (.t 75) (.t 76)),
 O 78 (.load (K1 3) (.t 77)),
 O 79 (.faddr 32 (.t 3)),
 O 80 (.load K0 (.t 79)),
 O 81 (.mov (.t 5)),
 O 82 (.iaddr (K1 3) (.t 80) (.t 81)),
 O 83 (.load (K1 3) (.t 82)),
 O 84 (.eqv true [3, 1, 1] (.t 78) (.t 83))] [0, 1, 0, 7, 15, 0, 32, 0, 224, 480, 1023] [83, 82, 81, 80, 79, 78, 77, 76, 75, 74]) (
 .cond (.t 84) (sq (.reg [
 O 4 (.mov (.c (.b false)))] []) (
 .ret))
 (.skip)))) (
 .reg [
 O 72 (.mov (.t 5)),
 O 73 (.bin .add (.t 72) (.c (I 1))),
 O 5 (.mov (.t 73))] [73, 72]))
def L99_1 : PC :=
 sq (sq (.reg [
 O 85 (.mov (.t 6)),
 O 86 (.faddr 33 (.t 2)),
 O 87 (.load K0 (.t 86)),
 O 88 (.len false (.t 87)),
 O 89 (.bin .lss (.t 85) (.t 88))] [88, 87, 86, 85]) (
 .cond (.t 89) (.skip)
 (.exit 2))) (
 sq (.block 3 (
 sq (.regD [
 O 92 (.faddr 33 (.t 2)),
 O 93 (.load K0 (.t 92)),
 O 94 (.mov (.t 6)),
 O 95 (.iaddr (K1 35) (.t 93) (.t 94)),
 O 96 (.load (K1 35) (.t 95)),
 O 97 (.faddr 33 (.t 3)),
 O 98 (.load K0 (.t 97)),
 O 99 (.mov (.t 6)),
 O 100 (.iaddr (K1 35) (.t 98) (.t 99)),
 O 101 (.load (K1 35) (.t 100)),
 O 7 (.alloc (K1 35) (.a [(I 0), (I 0), (I 0), (I 0), (.s []), (.s []), (I 0), (I 0), (I 0), (I 0), (I 0), (I 0), (.s []), (.s []), (.s []), (I 0), (I 0), (I 0), (I 0), (I 0), (I 0), (I 0), (I 0), (I 0), (I 0), (.s []), (.s []), (.s []), (I 0), (I 0), (I 0), (I 0), (I 0), (.s []), (.l K0 [] true)])),
 O 8 (.alloc (K1 35) (.a [(I 0), (I 0), (I 0), (I 0), (.s []), (.s []), (I 0), (I 0), (I 0), (I 0), (I 0), (I 0), (.s []), (.s []), (.s []), (I 0), (I 0), (I 0), (I 0), (I 0), (I 0), (I 0), (I 0), (I 0), (I 0), (.s []), (.s []), (.s []), (I 0), (I 0), (I 0), (I 0), (I 0), (.s []), (.l K0 [] true)])),
 E (.store (K1 35) (.t 7) (.t 96)),
 E (.store (K1 35) (.t 8) (.t 101))] [0, 1, 0, 7, 15, 0, 32, 0, 224, 480, 0, 0, 3103, 8191] [101, 100, 99, 98, 97, 96, 95, 94, 93, 92]) (
 sq (.reg [
 O 102 (.faddr 0 (.t 7)),
 O 103 (.load K0 (.t 102)),
 O 104 (.faddr 0 (.t 8)),
 O 105 (.load K0 (.t 104)),
 O 106 (.bin .neq (.t 103) (.t 105)),
 O 107 (.mov (.t 106)),
 OG 108 107 false (.faddr 1 (.t 7)),
 OG 109 107 false (.load K0 (.t 108)),
 OG 110 107 false (.faddr 1 (.t 8)),
 OG 111 107 false (.load K0 (.t 110)),
 OG 112 107 false (.bin .neq (.t 109) (.t 111)),
 O 113 (.pick (.t 107) (.c (.b true)) (.t 112)),
 O 114 (.mov (.t 113)),
 OG 115 114 false (.faddr 2 (.t 7)),
 OG 116 114 false (.load K0 (.t 115)),
 OG 117 114 false (.faddr 2 (.t 8)),
 OG 118 114 false (.load K0 (.t 117)),
 OG 119 114 false (.bin .neq (.t 116) (.t 118)),
 O 120 (.pick (.t 114) (.c (.b true)) (.t 119)),
 O 121 (.mov (.t 120)),
 OG 122 121 false (.faddr 3 (.t 7)),
 OG 123 121 false (.load K0 (.t 122)),
 OG 124 121 false (.faddr 3 (.t 8)),
 OG 125 121 false (.load K0 (.t 124)),
 OG 126 121 false (.bin .neq (.t 123) (.t 125)),
 O 127 (.pick (.t 121) (.c (.b true)) (.t 126)),
 O 128 (.mov (.t 127)),
 OG 129 128 false (.faddr 4 (.t 7)),
 OG 130 128 false (.load K0 (.t 129)),
 OG 131 128 false (.faddr 4 (.t 8)),
 OG 132 128 false (.load K0 (.t 131)),
 OG 133 128 false (.bin .neq (.t 130) (.t 132)),
 O 134 (.pick (.t 128) (.c (.b true)) (.t 133)),
 O 135 (.mov (.t 134)),
 OG 136 135 false (.faddr 5 (.t 7)),
 OG 137 135 false (.load K0 (.t 136)),
 OG 138 135 false (.faddr 5 (.t 8)),
 OG 139 135 false (.load K0 (.t 138)),
 OG 140 135 false (.bin .neq (.t 137) (.t 139)),
 O 141 (.pick (.t 135) (.c (.b true)) (.t 140)),
 O 142 (.mov (.t 141)),
 OG 143 142 false (.faddr 6 (.t 7)),
 OG 144 142 false (.load (K1 29) (.t 143)),
 OG 145 142 false (.faddr 6 (.t 8)),
 OG 146 142 false (.load (K1 29) (.t 145)),
 OG 147 142 false (.call 0 144 [(.t 144), (.t 146)]),
 OG 148 142 false (.un .not (.t 147)),
 O 149 (.pick (.t 142) (.c (.b true)) (.t 148))] [148, 147, 146, 145, 144, 143, 142, 141, 140, 139, 138, 137, 136, 135, 134, 133, 132, 131, 130, 129, 128, 127, 126, 125, 124, 123, 122, 121, 120, 119, 118, 117, 116, 115, 114, 113, 112, 111, 110, 109, 108, 107, 106, 105, 8, 104, 103, 7, 102]) (
 .cond (.t 149) (sq (.reg [
 O 4 (.mov (.c (.b false)))] []) (
 .ret))
 (.skip))))) (
 .reg [
 O 90 (.mov (.t 6)),
 O 91 (.bin .add (.t 90) (.c (I 1))),
 O 6 (.mov (.t 91))] [91, 90]))
def L99_2 : PC :=
 sq (sq (.reg [
 O 150 (.mov (.t 9)),
 O 151 (.faddr 39 (.t 2)),
 O 152 (.faddr 1 (.t 151)),
 O 153 (.load K0 (.t 152)),
 O 154 (.len false (.t 153)),
 O 155 (.bin .lss (.t 150) (.t 154))] [154, 153, 152, 151, 150]) (
 .cond (.t 155) (.skip)
 (.exit 4))) (
 sq (.block 5 (
 sq (.regD [
 O 158 (.faddr 39 (.t 2)),
 O 159 (.faddr 1 (.t 158)),
 O 160 (.load K0 (.t 159)),
 O 161 (.mov (.t 9)),
 O 162 (.iaddr (K1 3) (.t 160) (.t 161)),
 O 163 (.load (K1 3) (.t 162)),
 O 164 (.faddr 39 (.t 3)),
 O 165 (.faddr 1 (.t 164)),
 O 166 (.load K0 (.t 165)),
 O 167 (.mov (.t 9)),
 O 168 (.iaddr (K1 3) (.t 166) (.t 167)),
 O 169 (.load (K1 3) (.t 168)),
 O 170 (.eqv true [1, 1, 1] (.t 163) (.t 169))] [0, 1, 3, 0, 15, 31, 0, 64, 192, 0, 960, 1984, 4095] [169, 168, 167, 166, 165, 164, 163, 162, 161, 160, 159, 158]) (
 .cond (.t 170) (sq (.reg [
 O 4 (.mov (.c (.b false)))] []) (
 .ret))
 (.skip)))) (
 .reg [
 O 156 (.mov (.t 9)),
 O 157 (.bin .add (.t 156) (.c (I 1))),
 O 9 (.mov (.t 157))] [157, 156]))
def L99_3 : PC :=
 sq (sq (.reg [
 O 171 (.mov (.t 10)),
 O 172 (.faddr 39 (.t 2)),
 O 173 (.faddr 2 (.t 172)),
 O 174 (.load K0 (.t 173)),
 O 175 (.len false (.t 174)),
 O 176 (.bin .lss (.t 171) (.t 175))] [175, 174, 173, 172, 171]) (
 .cond (.t 176) (.skip)
 (.exit 6))) (
 sq (.block 7 (
 sq (.regD [
 O 179 (.faddr 39 (.t 2)),
 O 180 (.faddr 2 (.t 179)),
 O 181 (.load K0 (.t 180)),
 O 182 (.mov (.t 10)),
 O 183 (.iaddr (K1 3) (.t 181) (.t 182)),
 O 184 (.load (K1 3) (.t 183)),
 O 185 (.faddr 39 (.t 3)),
 O 186 (.faddr 2 (.t 185)),
 O 187 (.load K0 (.t 186)),
 O 188 (.mov (.t 10)),
 O 189 (.iaddr (K1 3) (.t 187) (.t 188)),
 O 190 (.load (K1 3) (.t 189)),
 O 191 (.eqv true [1, 1, 3] (.t 184) (.t 190))] [0, 1, 3, 0, 15, 31, 0, 64, 192, 0, 960, 1984, 4095] [190, 189, 188, 187, 186, 185, 184, 183, 182, 181, 180, 179]) (
 .cond (.t 191) (sq (.reg [
 O 4 (.mov (.c (.b false)))] []) (
 .ret))
 (.skip)))) (
 .reg [
 O 177 (.mov (.t 10)),
 O 178 (.bin .add (.t 177) (.c (I 1))),
 O 10 (.mov (.t 178))] [178, 177]))
def F99 : PF := ⟨2, [.t 4],
 sq (.reg [
 O 2 (.box (K1 42) (.t 0)),
 O 3 (.box (K1 42) (.t 1)),
 O 4 (.mov (.c (.b false)))] [4, 1, 0]) (
 sq (sq (.reg [
 O 11 (.faddr 32 (.t 2)),
 O 12 (.load K0 (.t 11)),
 O 13 (.len false (.t 12)),
 O 14 (.faddr 32 (.t 3)),
 O 15 (.load K0 (.t 14)),
 O 16 (.len false (.t 15)),
 O 17 (.bin .neq (.t 13) (.t 16)),
 O 18 (.mov (.t 17)),
 OG 19 18 false (.faddr 33 (.t 2)),
 OG 20 18 false (.load K0 (.t 19)),
 OG 21 18 false (.len false (.t 20)),
 OG 22 18 false (.faddr 33 (.t 3)),
 OG 23 18 false (.load K0 (.t 22)),
 OG 24 18 false (.len false (.t 23)),
 OG 25 18 false (.bin .neq (.t 21) (.t 24)),
 O 26 (.pick (.t 18) (.c (.b true)) (.t 25)),
 O 27 (.mov (.t 26)),
 OG 28 27 false (.faddr 34 (.t 2)),
 OG 29 27 false (.load K0 (.t 28)),
 OG 30 27 false (.len false (.t 29)),
 OG 31 27 false (.faddr 34 (.t 3)),
 OG 32 27 false (.load K0 (.t 31)),
 OG 33 27 false (.len false (.t 32)),
 OG 34 27 false (.bin .neq (.t 30) (.t 33)),
 O 35 (.pick (.t 27) (.c (.b true)) (.t 34)),
 O 36 (.mov (.t 35)),
 OG 37 36 false (.faddr 39 (.t 2)),
 OG 38 36 false (.faddr 0 (.t 37)),
 OG 39 36 false (.load K0 (.t 38)),
 OG 40 36 false (.faddr 39 (.t 3)),
 OG 41 36 false (.faddr 0 (.t 40)),
 OG 42 36 false (.load K0 (.t 41)),
 OG 43 36 false (.bin .neq (.t 39) (.t 42)),
 O 44 (.pick (.t 36) (.c (.b true)) (.t 43)),
 O 45 (.mov (.t 44)),
 OG 46 45 false (.faddr 39 (.t 2)),
 OG 47 45 false (.faddr 1 (.t 46)),
 OG 48 45 false (.load K0 (.t 47)),
 OG 49 45 false (.len false (.t 48)),
 OG 50 45 false (.faddr 39 (.t 3)),
 OG 51 45 false (.faddr 1 (.t 50)),
 OG 52 45 false (.load K0 (.t 51)),
 OG 53 45 false (.len false (.t 52)),
 OG 54 45 false (.bin .neq (.t 49) (.t 53)),
 O 55 (.pick (.t 45) (.c (.b true)) (.t 54)),
 O 56 (.mov (.t 55)),
 OG 57 56 false (.faddr 39 (.t 2)),
 OG 58 56 false (.faddr 2 (.t 57)),
 OG 59 56 false (.load K0 (.t 58)),
 OG 60 56 false (.len false (.t 59)),
 OG 61 56 false (.faddr 39 (.t 3)),
 OG 62 56 false (.faddr 2 (.t 61)),
 OG 63 56 false (.load K0 (.t 62)),
 OG 64 56 false (.len false (.t 63)),
 OG 65 56 false (.bin .neq (.t 60) (.t 64)),
 O 66 (.pick (.t 56) (.c (.b true)) (.t 65))] [65, 64, 63, 62, 61, 60, 59, 58, 57, 56, 55, 54, 53, 52, 51, 50, 49, 48, 47, 46, 45, 44, 43, 42, 41, 40, 39, 38, 37, 36, 35, 34, 33, 32, 31, 30, 29, 28, 27, 26, 25, 24, 23, 22, 21, 20, 19, 18, 17, 16, 15, 14, 13, 12, 11]) (
 .cond (.t 66) (sq (.reg [
 O 4 (.mov (.c (.b false)))] []) (
 .ret))
 (.skip))) (
 sq (sq (.reg [
 O 5 (.mov (.c (I 0)))] []) (
 .block 0 (
 .loop [2, 3, 5] L99_0))) (
 sq (sq (.reg [
 O 6 (.mov (.c (I 0)))] []) (
 .block 2 (
 .loop [2, 3, 6] L99_1))) (
 sq (sq (.reg [
 O 9 (.mov (.c (I 0)))] []) (
 .block 4 (
 .loop [2, 3, 9] L99_2))) (
 sq (sq (.reg [
 O 10 (.mov (.c (I 0)))] []) (
 .block 6 (
 .loop [2, 3, 10] L99_3))) (
 sq (.reg [
 O 192 (.faddr 34 (.t 2)),
 O 193 (.load K0 (.t 192)),
 O 194 (.faddr 34 (.t 3)),
 O 195 (.load K0 (.t 194)),
 O 196 (.call 0 145 [(.t 193), (.t 195)]),
 O 4 (.mov (.t 196))] [196, 195, 3, 194, 193, 2, 192]) (
 .ret)))))))⟩
def F100 : PF := ⟨1, [.c 2 (K1 42)],
 sq (.reg [
 O 1 (.box (K1 42) (.t 0)),
 O 2 (.alloc (K1 42) (.a [(I 0), (I 0), (.s []), (.l (K1 2) [] true), (.l (K1 3) [] true), (.l (K1 4) [] true), (I 0), (I 0), (I 0), (I 0), (I 0), (I 0), (I 0), (I 0), (I 0), (I 0), (I 0), (I 0), (I 0), (I 0), (.l (K1 19) [] true), (.l (K1 7) [] true), (.l (K1 10) [] true), (.l (K1 6) [] true), (.l (K1 7) [] true), (.l (K1 11) [] true), (.l (K1 25) [] true), (.l (K1 10) [] true), (.l (K1 7) [] true), (.l (K1 9) [] true), (.l (K1 7) [] true), (.l (K1 7) [] true), (.l (K1 3) [] true), (.l (K1 35) [] true), (.l (K1 5) [] true), (.b false), (I 0), (I 0), (I 0), (I 0), (.l (K1 3) [] true), (.l (K1 3) [] true)]))] [0]) (
 sq (.reg [
 O 3 (.faddr 3 (.t 1)),
 O 4 (.load (K1 22) (.t 3)),
 O 5 (.call 0 146 [(.t 4)]),
 O 6 (.faddr 3 (.t 1)),
 E (.store (K1 22) (.t 6) (.t 5))] [6, 5, 4, 3]) (
 sq (.regD [
 O 7 (.faddr 25 (.t 1)),
 O 8 (.load K0 (.t 7)),
 O 9 (.call 1 147 [(.t 8)]),
 O 10 (.faddr 27 (.t 1)),
 O 11 (.load K0 (.t 10)),
 O 12 (.call 1 148 [(.t 11)]),
 O 13 (.faddr 28 (.t 1)),
 O 14 (.load K0 (.t 13)),
 O 15 (.call 1 149 [(.t 14)]),
 O 16 (.faddr 25 (.t 1)),
 E (.store K0 (.t 16) (.t 9)),
 O 17 (.faddr 27 (.t 1)),
 E (.store K0 (.t 17) (.t 12)),
 O 18 (.faddr 28 (.t 1)),
 E (.store K0 (.t 18) (.t 15))] [0, 1, 3, 0, 8, 31, 0, 64, 255, 223, 1023, 2047, 4095, 8191, 16383] [18, 17, 16, 15, 14, 13, 12, 11, 10, 9, 8, 7]) (
 sq (.regD [
 O 19 (.faddr 29 (.t 1)),
 O 20 (.load K0 (.t 19)),
 O 21 (.call 1 150 [(.t 20)]),
 O 22 (.faddr 30 (.t 1)),
 O 23 (.load K0 (.t 22)),
 O 24 (.call 1 151 [(.t 23)]),
 O 25 (.faddr 32 (.t 1)),
 O 26 (.load K0 (.t 25)),
 O 27 (.call 1 152 [(.t 26)]),
 O 28 (.faddr 34 (.t 1)),
 O 29 (.load K0 (.t 28)),
 O 30 (.call 1 153 [(.t 29)]),
 O 31 (.faddr 29 (.t 1)),
 E (.store K0 (.t 31) (.t 21)),
 O 32 (.faddr 30 (.t 1)),
 E (.store K0 (.t 32) (.t 24)),
 O 33 (.faddr 32 (.t 1)),
 E (.store K0 (.t 33) (.t 27)),
 O 34 (.faddr 34 (.t 1)),
 E (.store K0 (.t 34) (.t 30))] [0, 1, 3, 0, 8, 31, 0, 64, 255, 0, 512, 2047, 1759, 8191, 16383, 32767, 65535, 131071, 262143, 524287] [34, 33, 32, 31, 30, 29, 28, 27, 26, 25, 24, 23, 22, 21, 20, 19]) (
 sq (.reg [
 O 35 (.faddr 26 (.t 1)),
 O 36 (.load K0 (.t 35)),
 O 37 (.call 2 154 [(.t 36), (.f 94)]),
 O 38 (.faddr 26 (.t 1)),
 E (.store K0 (.t 38) (.t 37))] [38, 37, 36, 35]) (
 sq (.reg [
 O 39 (.faddr 31 (.t 1)),
 O 40 (.load K0 (.t 39)),
 O 41 (.call 2 155 [(.t 40), (.f 156)]),
 O 42 (.faddr 31 (.t 1)),
 E (.store K0 (.t 42) (.t 41))] [42, 41, 40, 39]) (
 sq (.reg [
 O 43 (.faddr 33 (.t 1)),
 O 44 (.load K0 (.t 43)),
 O 45 (.call 2 158 [(.t 44), (.f 159)]),
 O 46 (.faddr 33 (.t 1)),
 E (.store K0 (.t 46) (.t 45))] [46, 45, 44, 43]) (
 sq (.regD [
 O 47 (.faddr 39 (.t 1)),
 O 48 (.faddr 1 (.t 47)),
 O 49 (.load K0 (.t 48)),
 O 50 (.call 1 161 [(.t 49)]),
 O 51 (.faddr 39 (.t 1)),
 O 52 (.faddr 2 (.t 51)),
 O 53 (.load K0 (.t 52)),
 O 54 (.call 1 162 [(.t 53)]),
 O 55 (.faddr 39 (.t 1)),
 O 56 (.faddr 1 (.t 55)),
 E (.store K0 (.t 56) (.t 50)),
 O 57 (.faddr 39 (.t 1)),
 O 58 (.faddr 2 (.t 57)),
 E (.store K0 (.t 58) (.t 54))] [0, 1, 3, 7, 0, 16, 48, 127, 127, 383, 1023, 2047, 4095, 8191] [58, 57, 56, 55, 54, 53, 52, 51, 50, 49, 48, 47]) (
 sq (.reg [
 O 59 (.load (K1 42) (.t 1)),
 E (.store (K1 42) (.t 2) (.t 59))] [1, 59]) (
 .ret)))))))))⟩
def L139_0 : PC :=
 sq (sq (.reg [
 O 48 (.mov (.t 5)),
 O 49 (.faddr 0 (.t 2)),
 O 50 (.load K0 (.t 49)),
 O 51 (.len false (.t 50)),
 O 52 (.bin .lss (.t 48) (.t 51))] [51, 50, 49, 48]) (
 .cond (.t 52) (.skip)
 (.exit 0))) (
 sq (.block 1 (
 sq (.regD [
 O 55 (.faddr 0 (.t 2)),
 O 56 (.load K0 (.t 55)),
 O 57 (.mov (.t 5)),
 O 58 (.iaddr (K1 2) (.t 56) (.t 57)),
 O 59 (.load (K1 2) (.t 58)),
 O 60 (.faddr 0 (.t 3)),
 O 61 (.load K0 (.t 60)),
 O 62 (.mov (.t 5)),
 O 63 (.iaddr (K1 2) (.t 61) (.t 62)),
 O 64 (.load (K1 2) (.t 63)),
 O 65 (.eqv true [3, 1] (.t 59) (.t 64))] [0, 1, 0, 7, 15, 0, 32, 0, 224, 480, 1023] [64, 63, 62, 61, 60, 59, 58, 57, 56, 55]) (
 .cond (.t 65) (sq (.reg [
 O 4 (.mov (.c (.b false)))] []) (
 .ret))
 (.skip)))) (
 .reg [
 O 53 (.mov (.t 5)),
 O 54 (.bin .add (.t 53) (.c (I 1))),
 O 5 (.mov (.t 54))] [54, 53]))
def L139_1 : PC :=
 sq (sq (.reg [
 O 66 (.mov (.t 6)),
 O 67 (.faddr 2 (.t 2)),
 O 68 (.load K0 (.t 67)),
 O 69 (.len false (.t 68)),
 O 70 (.bin .lss (.t 66) (.t 69))] [69, 68, 67, 66]) (
 .cond (.t 70) (.skip)
 (.exit 2))) (
 sq (.block 3 (
 sq (.regD [
 O 73 (.faddr 2 (.t 2)),
 O 74 (.load K0 (.t 73)),
 O 75 (.mov (.t 6)),
 O 76 (.iaddr (K1 4) (.t 74) (.t 75)),
 O 77 (.load (K1 4) (.t 76)),
 O 78 (.faddr 2 (.t 3)),
 O 79 (.load K0 (.t 78)),
 O 80 (.mov (.t 6)),
 O 81 (.iaddr (K1 4) (.t 79) (.t 80)),
 O 82 (.load (K1 4) (.t 81)),
 O 83 (.eqv true [1, 1, 1, 3] (.t 77) (.t 82))] [0, 1, 0, 7, 15, 0, 32, 0, 224, 480, 1023] [82, 81, 80, 79, 78, 77, 76, 75, 74, 73]) (
 .cond (.t 83) (sq (.reg [
 O 4 (.mov (.c (.b false)))] []) (
 .ret))
 (.skip)))) (
 .reg [
 O 71 (.mov (.t 6)),
 O 72 (.bin .add (.t 71) (.c (I 1))),
 O 6 (.mov (.t 72))] [72, 71]))
def L139_2 : PC :=
 sq (sq (.reg [
 O 84 (.mov (.t 7)),
 O 85 (.faddr 17 (.t 2)),
 O 86 (.load K0 (.t 85)),
 O 87 (.len false (.t 86)),
 O 88 (.bin .lss (.t 84) (.t 87))] [87, 86, 85, 84]) (
 .cond (.t 88) (.skip)
 (.exit 4))) (
 sq (.block 5 (
 sq (.regD [
 O 91 (.faddr 17 (.t 2)),
 O 92 (.load K0 (.t 91)),
 O 93 (.mov (.t 7)),
 O 94 (.iaddr (K1 19) (.t 92) (.t 93)),
 O 95 (.load (K1 19) (.t 94)),
 O 96 (.faddr 17 (.t 3)),
 O 97 (.load K0 (.t 96)),
 O 98 (.mov (.t 7)),
 O 99 (.iaddr (K1 19) (.t 97) (.t 98)),
 O 100 (.load (K1 19) (.t 99)),
 O 101 (.call 0 224 [(.t 95), (.t 100)]),
 O 102 (.un .not (.t 101))] [0, 1, 0, 7, 15, 0, 32, 0, 224, 480, 1023, 2047] [101, 100, 99, 98, 97, 96, 95, 94, 93, 92, 91]) (
 .cond (.t 102) (sq (.reg [
 O 4 (.mov (.c (.b false)))] []) (
 .ret))
 (.skip)))) (
 .reg [
 O 89 (.mov (.t 7)),
 O 90 (.bin .add (.t 89) (.c (I 1))),
 O 7 (.mov (.t 90))] [90, 89]))
def F139 : PF := ⟨2, [.t 4],
 sq (.reg [
 O 2 (.box (K1 22) (.t 0)),
 O 3 (.box (K1 22) (.t 1)),
 O 4 (.mov (.c (.b false)))] [4, 1, 0]) (
 sq (sq (.reg [
 O 8 (.faddr 0 (.t 2)),
 O 9 (.load K0 (.t 8)),
 O 10 (.len false (.t 9)),
 O 11 (.faddr 0 (.t 3)),
 O 12 (.load K0 (.t 11)),
 O 13 (.len false (.t 12)),
 O 14 (.bin .neq (.t 10) (.t 13)),
 O 15 (.mov (.t 14)),
 OG 16 15 false (.faddr 2 (.t 2)),
 OG 17 15 false (.load K0 (.t 16)),
 OG 18 15 false (.len false (.t 17)),
 OG 19 15 false (.faddr 2 (.t 3)),
 OG 20 15 false (.load K0 (.t 19)),
 OG 21 15 false (.len false (.t 20)),
 OG 22 15 false (.bin .neq (.t 18) (.t 21)),
 O 23 (.pick (.t 15) (.c (.b true)) (.t 22)),
 O 24 (.mov (.t 23)),
 OG 25 24 false (.faddr 17 (.t 2)),
 OG 26 24 false (.load K0 (.t 25)),
 OG 27 24 false (.len false (.t 26)),
 OG 28 24 false (.faddr 17 (.t 3)),
 OG 29 24 false (.load K0 (.t 28)),
 OG 30 24 false (.len false (.t 29)),
 OG 31 24 false (.bin .neq (.t 27) (.t 30)),
 O 32 (.pick (.t 24) (.c (.b true)) (.t 31)),
 O 33 (.mov (.t 32)),
 OG 34 33 false (.faddr 3 (.t 2)),
 OG 35 33 false (.load (K1 14) (.t 34)),
 OG 36 33 false (.faddr 3 (.t 3)),
 OG 37 33 false (.load (K1 14) (.t 36)),
 OG 38 33 false (.eqv true [1, 1, 1, 1, 1, 1, 1, 1, 1, 1, 1, 1, 1, 1] (.t 35) (.t 37)),
 O 39 (.pick (.t 33) (.c (.b true)) (.t 38)),
 O 40 (.mov (.t 39)),
 OG 41 40 false (.faddr 1 (.t 2)),
 OG 42 40 false (.load K0 (.t 41)),
 OG 43 40 false (.faddr 1 (.t 3)),
 OG 44 40 false (.load K0 (.t 43)),
 OG 45 40 false (.call 0 223 [(.t 42), (.t 44)]),
 OG 46 40 false (.un .not (.t 45)),
 O 47 (.pick (.t 40) (.c (.b true)) (.t 46))] [46, 45, 44, 43, 42, 41, 40, 39, 38, 37, 36, 35, 34, 33, 32, 31, 30, 29, 28, 27, 26, 25, 24, 23, 22, 21, 20, 19, 18, 17, 16, 15, 14, 13, 12, 11, 10, 9, 8]) (
 .cond (.t 47) (sq (.reg [
 O 4 (.mov (.c (.b false)))] []) (
 .ret))
 (.skip))) (
 sq (sq (.reg [
 O 5 (.mov (.c (I 0)))] []) (
 .block 0 (
 .loop [2, 3, 5] L139_0))) (
 sq (sq (.reg [
 O 6 (.mov (.c (I 0)))] []) (
 .block 2 (
 .loop [2, 3, 6] L139_1))) (
 sq (sq (.reg [
 O 7 (.mov (.c (I 0)))] []) (
 .block 4 (
 .loop [2, 3, 7] L139_2))) (
 sq (.reg [
 O 4 (.mov (.c (.b true)))] []) (
 .ret))))))⟩
def L140_0 : PC :=
 sq (sq (.reg [
 O 11 (.mov (.t 5)),
 O 12 (.mov (.t 0)),
 O 13 (.len false (.t 12)),
 O 14 (.bin .lss (.t 11) (.t 13))] [13, 12, 11]) (
 .cond (.t 14) (.skip)
 (.exit 0))) (
 sq (.block 1 (
 sq (.regD [
 O 17 (.mov (.t 0)),
 O 18 (.mov (.t 5)),
 O 19 (.iaddr (K1 7) (.t 17) (.t 18)),
 O 20 (.load (K1 7) (.t 19)),
 O 21 (.mov (.t 1)),
 O 22 (.mov (.t 5)),
 O 23 (.iaddr (K1 7) (.t 21) (.t 22)),
 O 24 (.load (K1 7) (.t 23)),
 O 25 (.eqv true [1, 1, 1, 1, 3, 3, 3] (.t 20) (.t 24))] [0, 0, 3, 7, 0, 0, 48, 112, 255] [24, 23, 22, 21, 20, 19, 18, 17]) (
 .cond (.t 25) (sq (.reg [
 O 4 (.mov (.c (.b false)))] []) (
 .ret))
 (.skip)))) (
 .reg [
 O 15 (.mov (.t 5)),
 O 16 (.bin .add (.t 15) (.c (I 1))),
 O 5 (.mov (.t 16))] [16, 15]))
def F140 : PF := ⟨2, [.t 4],
 sq (.reg [
 O 4 (.mov (.c (.b false)))] [4]) (
 sq (sq (.reg [
 O 6 (.mov (.t 0)),
 O 7 (.len false (.t 6)),
 O 8 (.mov (.t 1)),
 O 9 (.len false (.t 8)),
 O 10 (.bin .neq (.t 7) (.t 9))] [9, 8, 7, 6]) (
 .cond (.t 10) (sq (.reg [
 O 4 (.mov (.c (.b false)))] []) (
 .ret))
 (.skip))) (
 sq (sq (.reg [
 O 5 (.mov (.c (I 0)))] []) (
 .block 0 (
 .loop [0, 1, 5] L140_0))) (
 sq (.reg [
 O 4 (.mov (.c (.b true)))] []) (
 .ret))))⟩
def L141_0 : PC :=
 sq (sq (.reg [
 O 11 (.mov (.t 5)),
 O 12 (.mov (.t 0)),
 O 13 (.len false (.t 12)),
 O 14 (.bin .lss (.t 11) (.t 13))] [13, 12, 11]) (
 .cond (.t 14) (.skip)
 (.exit 0))) (
 sq (.block 1 (
 sq (.regD [
 O 17 (.mov (.t 0)),
 O 18 (.mov (.t 5)),
 O 19 (.iaddr (K1 11) (.t 17) (.t 18)),
 O 20 (.load (K1 11) (.t 19)),
 O 21 (.mov (.t 1)),
 O 22 (.mov (.t 5)),
 O 23 (.iaddr (K1 11) (.t 21) (.t 22)),
 O 24 (.load (K1 11) (.t 23)),
 O 25 (.eqv true [1, 1, 1, 1, 1, 1, 1, 1, 1, 1, 1] (.t 20) (.t 24))] [0, 0, 3, 7, 0, 0, 48, 112, 255] [24, 23, 22, 21, 20, 19, 18, 17]) (
 .cond (.t 25) (sq (.reg [
 O 4 (.mov (.c (.b false)))] []) (
 .ret))
 (.skip)))) (
 .reg [
 O 15 (.mov (.t 5)),
 O 16 (.bin .add (.t 15) (.c (I 1))),
 O 5 (.mov (.t 16))] [16, 15]))
def F141 : PF := ⟨2, [.t 4],
 sq (.reg [
 O 4 (.mov (.c (.b false)))] [4]) (
 sq (sq (.reg [
 O 6 (.mov (.t 0)),
 O 7 (.len false (.t 6)),
 O 8 (.mov (.t 1)),
 O 9 (.len false (.t 8)),
 O 10 (.bin .neq (.t 7) (.t 9))] [9, 8, 7, 6]) (
 .cond (.t 10) (sq (.reg [
 O 4 (.mov (.c (.b false)))] []) (
 .ret))
 (.skip))) (
 sq (sq (.reg [
 O 5 (.mov (.c (I 0)))] []) (
 .block 0 (
 .loop [0, 1, 5] L141_0))) (
 sq (.reg [
 O 4 (.mov (.c (.b true)))] []) (
 .ret))))⟩
def L142_0 : PC :=
 sq (sq (.reg [
 O 55 (.mov (.t 5)),
 O 56 (.faddr 6 (.t 2)),
 O 57 (.load K0 (.t 56)),
 O 58 (.len false (.t 57)),
 O 59 (.bin .lss (.t 55) (.t 58))] [58, 57, 56, 55]) (
 .cond (.t 59) (.skip)
 (.exit 0))) (
 sq (.block 1 (
 sq (.regD [
 O 62 (.faddr 6 (.t 2)),
 O 63 (.load K0 (.t 62)),
 O 64 (.mov (.t 5)),
 O 65 (.iaddr (K1 4) (.t 63) (.t 64)),
 O 66 (.load (K1 4) (.t 65)),
 O 67 (.faddr 6 (.t 3)),
 O 68 (.load K0 (.t 67)),
 O 69 (.mov (.t 5)),
 O 70 (.iaddr (K1 4) (.t 68) (.t 69)),
 O 71 (.load (K1 4) (.t 70)),
 O 72 (.eqv true [1, 1, 1, 3] (.t 66) (.t 71))] [0, 1, 0, 7, 15, 0, 32, 0, 224, 480, 1023] [71, 70, 69, 68, 67, 66, 65, 64, 63, 62]) (
 .cond (.t 72) (sq (.reg [
 O 4 (.mov (.c (.b false)))] []) (
 .ret))
 (.skip)))) (
 .reg [
 O 60 (.mov (.t 5)),
 O 61 (.bin .add (.t 60) (.c (I 1))),
 O 5 (.mov (.t 61))] [61, 60]))
def F142 : PF := ⟨2, [.t 4],
 sq (.reg [
 O 2 (.box (K1 7) (.t 0)),
 O 3 (.box (K1 7) (.t 1)),
 O 4 (.mov (.c (.b false)))] [4, 1, 0]) (
 sq (sq (.reg [
 O 6 (.faddr 0 (.t 2)),
 O 7 (.load K0 (.t 6)),
 O 8 (.faddr 0 (.t 3)),
 O 9 (.load K0 (.t 8)),
 O 10 (.bin .neq (.t 7) (.t 9)),
 O 11 (.mov (.t 10)),
 OG 12 11 false (.faddr 1 (.t 2)),
 OG 13 11 false (.load K0 (.t 12)),
 OG 14 11 false (.faddr 1 (.t 3)),
 OG 15 11 false (.load K0 (.t 14)),
 OG 16 11 false (.bin .neq (.t 13) (.t 15)),
 O 17 (.pick (.t 11) (.c (.b true)) (.t 16)),
 O 18 (.mov (.t 17)),
 OG 19 18 false (.faddr 2 (.t 2)),
 OG 20 18 false (.load K0 (.t 19)),
 OG 21 18 false (.faddr 2 (.t 3)),
 OG 22 18 false (.load K0 (.t 21)),
 OG 23 18 false (.bin .neq (.t 20) (.t 22)),
 O 24 (.pick (.t 18) (.c (.b true)) (.t 23)),
 O 25 (.mov (.t 24)),
 OG 26 25 false (.faddr 3 (.t 2)),
 OG 27 25 false (.load K0 (.t 26)),
 OG 28 25 false (.faddr 3 (.t 3)),
 OG 29 25 false (.load K0 (.t 28)),
 OG 30 25 false (.bin .neq (.t 27) (.t 29)),
 O 31 (.pick (.t 25) (.c (.b true)) (.t 30)),
 O 32 (.mov (.t 31)),
 OG 33 32 false (.faddr 4 (.t 2)),
 OG 34 32 false (.load K0 (.t 33)),
 OG 35 32 false (.faddr 4 (.t 3)),
 OG 36 32 false (.load K0 (.t 35)),
 OG 37 32 false (.bin .neq (.t 34) (.t 36)),
 O 38 (.pick (.t 32) (.c (.b true)) (.t 37)),
 O 39 (.mov (.t 38)),
 OG 40 39 false (.faddr 5 (.t 2)),
 OG 41 39 false (.load K0 (.t 40)),
 OG 42 39 false (.faddr 5 (.t 3)),
 OG 43 39 false (.load K0 (.t 42)),
 OG 44 39 false (.bin .neq (.t 41) (.t 43)),
 O 45 (.pick (.t 39) (.c (.b true)) (.t 44)),
 O 46 (.mov (.t 45)),
 OG 47 46 false (.faddr 6 (.t 2)),
 OG 48 46 false (.load K0 (.t 47)),
 OG 49 46 false (.len false (.t 48)),
 OG 50 46 false (.faddr 6 (.t 3)),
 OG 51 46 false (.load K0 (.t 50)),
 OG 52 46 false (.len false (.t 51)),
 OG 53 46 false (.bin .neq (.t 49) (.t 52)),
 O 54 (.pick (.t 46) (.c (.b true)) (.t 53))] [53, 52, 51, 50, 49, 48, 47, 46, 45, 44, 43, 42, 41, 40, 39, 38, 37, 36, 35, 34, 33, 32, 31, 30, 29, 28, 27, 26, 25, 24, 23, 22, 21, 20, 19, 18, 17, 16, 15, 14, 13, 12, 11, 10, 9, 8, 7, 6]) (
 .cond (.t 54) (sq (.reg [
 O 4 (.mov (.c (.b false)))] []) (
 .ret))
 (.skip))) (
 sq (sq (.reg [
 O 5 (.mov (.c (I 0)))] []) (
 .block 0 (
 .loop [2, 3, 5] L142_0))) (
 sq (.reg [
 O 4 (.mov (.c (.b true)))] []) (
 .ret))))⟩
def L143_0 : PC :=
 sq (sq (.reg [
 O 43 (.mov (.t 5)),
 O 44 (.faddr 27 (.t 2)),
 O 45 (.load K0 (.t 44)),
 O 46 (.len false (.t 45)),
 O 47 (.bin .lss (.t 43) (.t 46))] [46, 45, 44, 43]) (
 .cond (.t 47) (.skip)
 (.exit 0))) (
 sq (.block 1 (
 sq (.regD [
 O 50 (.faddr 27 (.t 2)),
 O 51 (.load K0 (.t 50)),
 O 52 (.mov (.t 5)),
 O 53 (.iaddr (K1 10) (.t 51) (.t 52)),
 O 54 (.load (K1 10) (.t 53)),
 O 55 (.faddr 27 (.t 3)),
 O 56 (.load K0 (.t 55)),
 O 57 (.mov (.t 5)),
 O 58 (.iaddr (K1 10) (.t 56) (.t 57)),
 O 59 (.load (K1 10) (.t 58)),
 O 60 (.eqv true [1, 1, 1, 1, 1, 1, 1, 1, 1, 3] (.t 54) (.t 59))] [0, 1, 0, 7, 15, 0, 32, 0, 224, 480, 1023] [59, 58, 57, 56, 55, 54, 53, 52, 51, 50]) (
 .cond (.t 60) (sq (.reg [
 O 4 (.mov (.c (.b false)))] []) (
 .ret))
 (.skip)))) (
 .reg [
 O 48 (.mov (.t 5)),
 O 49 (.bin .add (.t 48) (.c (I 1))),
 O 5 (.mov (.t 49))] [49, 48]))
def L143_1 : PC :=
 sq (sq (.reg [
 O 61 (.mov (.t 6)),
 O 62 (.faddr 28 (.t 2)),
 O 63 (.load K0 (.t 62)),
 O 64 (.len false (.t 63)),
 O 65 (.bin .lss (.t 61) (.t 64))] [64, 63, 62, 61]) (
 .cond (.t 65) (.skip)
 (.exit 2))) (
 sq (.block 3 (
 sq (.regD [
 O 68 (.faddr 28 (.t 2)),
 O 69 (.load K0 (.t 68)),
 O 70 (.mov (.t 6)),
 O 71 (.iaddr (K1 7) (.t 69) (.t 70)),
 O 72 (.load (K1 7) (.t 71)),
 O 73 (.faddr 28 (.t 3)),
 O 74 (.load K0 (.t 73)),
 O 75 (.mov (.t 6)),
 O 76 (.iaddr (K1 7) (.t 74) (.t 75)),
 O 77 (.load (K1 7) (.t 76)),
 O 78 (.eqv true [1, 1, 1, 1, 1, 1, 3] (.t 72) (.t 77))] [0, 1, 0, 7, 15, 0, 32, 0, 224, 480, 1023] [77, 76, 75, 74, 73, 72, 71, 70, 69, 68]) (
 .cond (.t 78) (sq (.reg [
 O 4 (.mov (.c (.b false)))] []) (
 .ret))
 (.skip)))) (
 .reg [
 O 66 (.mov (.t 6)),
 O 67 (.bin .add (.t 66) (.c (I 1))),
 O 6 (.mov (.t 67))] [67, 66]))
def L143_2 : PC :=
 sq (sq (.reg [
 O 79 (.mov (.t 7)),
 O 80 (.faddr 29 (.t 2)),
 O 81 (.load K0 (.t 80)),
 O 82 (.len false (.t 81)),
 O 83 (.bin .lss (.t 79) (.t 82))] [82, 81, 80, 79]) (
 .cond (.t 83) (.skip)
 (.exit 4))) (
 sq (.block 5 (
 sq (.regD [
 O 86 (.faddr 29 (.t 2)),
 O 87 (.load K0 (.t 86)),
 O 88 (.mov (.t 7)),
 O 89 (.iaddr (K1 9) (.t 87) (.t 88)),
 O 90 (.load (K1 9) (.t 89)),
 O 91 (.faddr 29 (.t 3)),
 O 92 (.load K0 (.t 91)),
 O 93 (.mov (.t 7)),
 O 94 (.iaddr (K1 9) (.t 92) (.t 93)),
 O 95 (.load (K1 9) (.t 94)),
 O 96 (.eqv true [1, 1, 1, 1, 1, 1, 1, 1, 3] (.t 90) (.t 95))] [0, 1, 0, 7, 15, 0, 32, 0, 224, 480, 1023] [95, 94, 93, 92, 91, 90, 89, 88, 87, 86]) (
 .cond (.t 96) (sq (.reg [
 O 4 (.mov (.c (.b false)))] []) (
 .ret))
 (.skip)))) (
 .reg [
 O 84 (.mov (.t 7)),
 O 85 (.bin .add (.t 84) (.c (I 1))),
 O 7 (.mov (.t 85))] [85, 84]))
def L143_3 : PC :=
 sq (sq (.reg [
 O 97 (.mov (.t 8)),
 O 98 (.faddr 30 (.t 2)),
 O 99 (.load K0 (.t 98)),
 O 100 (.len false (.t 99)),
 O 101 (.bin .lss (.t 97) (.t 100))] [100, 99, 98, 97]) (
 .cond (.t 101) (.skip)
 (.exit 6))) (
 sq (.block 7 (
 sq (.regD [
 O 104 (.faddr 30 (.t 2)),
 O 105 (.load K0 (.t 104)),
 O 106 (.mov (.t 8)),
 O 107 (.iaddr (K1 7) (.t 105) (.t 106)),
 O 108 (.load (K1 7) (.t 107)),
 O 109 (.faddr 30 (.t 3)),
 O 110 (.load K0 (.t 109)),
 O 111 (.mov (.t 8)),
 O 112 (.iaddr (K1 7) (.t 110) (.t 111)),
 O 113 (.load (K1 7) (.t 112)),
 O 114 (.eqv true [3, 1, 1, 1, 1, 1, 3] (.t 108) (.t 113))] [0, 1, 0, 7, 15, 0, 32, 0, 224, 480, 1023] [113, 112, 111, 110, 109, 108, 107, 106, 105, 104]) (
 .cond (.t 114) (sq (.reg [
 O 4 (.mov (.c (.b false)))] []) (
 .ret))
 (.skip)))) (
 .reg [
 O 102 (.mov (.t 8)),
 O 103 (.bin .add (.t 102) (.c (I 1))),
 O 8 (.mov (.t 103))] [103, 102]))
def F143 : PF := ⟨2, [.t 4],
 sq (.reg [
 O 2 (.box (K1 42) (.t 0)),
 O 3 (.box (K1 42) (.t 1)),
 O 4 (.mov (.c (.b false)))] [4, 1, 0]) (
 sq (sq (.reg [
 O 9 (.faddr 27 (.t 2)),
 O 10 (.load K0 (.t 9)),
 O 11 (.len false (.t 10)),
 O 12 (.faddr 27 (.t 3)),
 O 13 (.load K0 (.t 12)),
 O 14 (.len false (.t 13)),
 O 15 (.bin .neq (.t 11) (.t 14)),
 O 16 (.mov (.t 15)),
 OG 17 16 false (.faddr 28 (.t 2)),
 OG 18 16 false (.load K0 (.t 17)),
 OG 19 16 false (.len false (.t 18)),
 OG 20 16 false (.faddr 28 (.t 3)),
 OG 21 16 false (.load K0 (.t 20)),
 OG 22 16 false (.len false (.t 21)),
 OG 23 16 false (.bin .neq (.t 19) (.t 22)),
 O 24 (.pick (.t 16) (.c (.b true)) (.t 23)),
 O 25 (.mov (.t 24)),
 OG 26 25 false (.faddr 29 (.t 2)),
 OG 27 25 false (.load K0 (.t 26)),
 OG 28 25 false (.len false (.t 27)),
 OG 29 25 false (.faddr 29 (.t 3)),
 OG 30 25 false (.load K0 (.t 29)),
 OG 31 25 false (.len false (.t 30)),
 OG 32 25 false (.bin .neq (.t 28) (.t 31)),
 O 33 (.pick (.t 25) (.c (.b true)) (.t 32)),
 O 34 (.mov (.t 33)),
 OG 35 34 false (.faddr 30 (.t 2)),
 OG 36 34 false (.load K0 (.t 35)),
 OG 37 34 false (.len false (.t 36)),
 OG 38 34 false (.faddr 30 (.t 3)),
 OG 39 34 false (.load K0 (.t 38)),
 OG 40 34 false (.len false (.t 39)),
 OG 41 34 false (.bin .neq (.t 37) (.t 40)),
 O 42 (.pick (.t 34) (.c (.b true)) (.t 41))] [41, 40, 39, 38, 37, 36, 35, 34, 33, 32, 31, 30, 29, 28, 27, 26, 25, 24, 23, 22, 21, 20, 19, 18, 17, 16, 15, 14, 13, 12, 11, 10, 9]) (
 .cond (.t 42) (sq (.reg [
 O 4 (.mov (.c (.b false)))] []) (
 .ret))
 (.skip))) (
 sq (sq (.reg [
 O 5 (.mov (.c (I 0)))] []) (
 .block 0 (
 .loop [2, 3, 5] L143_0))) (
 sq (sq (.reg [
 O 6 (.mov (.c (I 0)))] []) (
 .block 2 (
 .loop [2, 3, 6] L143_1))) (
 sq (sq (.reg [
 O 7 (.mov (.c (I 0)))] []) (
 .block 4 (
 .loop [2, 3, 7] L143_2))) (
 sq (sq (.reg [
 O 8 (.mov (.c (I 0)))] []) (
 .block 6 (
 .loop [2, 3, 8] L143_3))) (
 sq (.reg [
 O 4 (.mov (.c (.b true)))] []) (
 .ret)))))))⟩
def L144_0 : PC :=
 sq (sq (.reg [
 O 88 (.mov (.t 5)),
 O 89 (.faddr 28 (.t 2)),
 O 90 (.load K0 (.t 89)),
 O 91 (.len false (.t 90)),
 O 92 (.bin .lss (.t 88) (.t 91))] [91, 90, 89, 88]) (
 .cond (.t 92) (.skip)
 (.exit 0))) (
 sq (.block 1 (
 sq (.regD [
 O 95 (.faddr 28 (.t 2)),
 O 96 (.load K0 (.t 95)),
 O 97 (.mov (.t 5)),
 O 98 (.iaddr K0 (.t 96) (.t 97)),
 O 99 (.load K0 (.t 98)),
 O 100 (.faddr 28 (.t 3)),
 O 101 (.load K0 (.t 100)),
 O 102 (.mov (.t 5)),
 O 103 (.iaddr K0 (.t 101) (.t 102)),
 O 104 (.load K0 (.t 103)),
 O 105 (.bin .neq (.t 99) (.t 104))] [0, 1, 0, 7, 15, 0, 32, 0, 224, 480, 1023] [104, 103, 102, 101, 100, 99, 98, 97, 96, 95]) (
 .cond (.t 105) (sq (.reg [
 O 4 (.mov (.c (.b false)))] []) (
 .ret))
 (.skip)))) (
 .reg [
 O 93 (.mov (.t 5)),
 O 94 (.bin .add (.t 93) (.c (I 1))),
 O 5 (.mov (.t 94))] [94, 93]))
def F144 : PF := ⟨2, [.t 4],
 sq (.reg [
 O 2 (.box (K1 29) (.t 0)),
 O 3 (.box (K1 29) (.t 1)),
 O 4 (.mov (.c (.b false)))] [4, 1, 0]) (
 sq (sq (.reg [
 O 6 (.faddr 0 (.t 2)),
 O 7 (.load K0 (.t 6)),
 O 8 (.faddr 0 (.t 3)),
 O 9 (.load K0 (.t 8)),
 O 10 (.bin .neq (.t 7) (.t 9)),
 O 11 (.mov (.t 10)),
 OG 12 11 false (.faddr 1 (.t 2)),
 OG 13 11 false (.load K0 (.t 12)),
 OG 14 11 false (.faddr 1 (.t 3)),
 OG 15 11 false (.load K0 (.t 14)),
 OG 16 11 false (.bin .neq (.t 13) (.t 15)),
 O 17 (.pick (.t 11) (.c (.b true)) (.t 16)),
 O 18 (.mov (.t 17)),
 OG 19 18 false (.faddr 2 (.t 2)),
 OG 20 18 false (.load K0 (.t 19)),
 OG 21 18 false (.faddr 2 (.t 3)),
 OG 22 18 false (.load K0 (.t 21)),
 OG 23 18 false (.bin .neq (.t 20) (.t 22)),
 O 24 (.pick (.t 18) (.c (.b true)) (.t 23)),
 O 25 (.mov (.t 24)),
 OG 26 25 false (.faddr 3 (.t 2)),
 OG 27 25 false (.load K0 (.t 26)),
 OG 28 25 false (.faddr 3 (.t 3)),
 OG 29 25 false (.load K0 (.t 28)),
 OG 30 25 false (.bin .neq (.t 27) (.t 29)),
 O 31 (.pick (.t 25) (.c (.b true)) (.t 30)),
 O 32 (.mov (.t 31)),
 OG 33 32 false (.faddr 4 (.t 2)),
 OG 34 32 false (.load K0 (.t 33)),
 OG 35 32 false (.faddr 4 (.t 3)),
 OG 36 32 false (.load K0 (.t 35)),
 OG 37 32 false (.bin .neq (.t 34) (.t 36)),
 O 38 (.pick (.t 32) (.c (.b true)) (.t 37)),
 O 39 (.mov (.t 38)),
 OG 40 39 false (.faddr 5 (.t 2)),
 OG 41 39 false (.load K0 (.t 40)),
 OG 42 39 false (.faddr 5 (.t 3)),
 OG 43 39 false (.load K0 (.t 42)),
 OG 44 39 false (.bin .neq (.t 41) (.t 43)),
 O 45 (.pick (.t 39) (.c (.b true)) (.t 44)),
 O 46 (.mov (.t 45)),
 OG 47 46 false (.faddr 6 (.t 2)),
 OG 48 46 false (.load K0 (.t 47)),
 OG 49 46 false (.faddr 6 (.t 3)),
 OG 50 46 false (.load K0 (.t 49)),
 OG 51 46 false (.bin .neq (.t 48) (.t 50)),
 O 52 (.pick (.t 46) (.c (.b true)) (.t 51)),
 O 53 (.mov (.t 52)),
 OG 54 53 false (.faddr 7 (.t 2)),
 OG 55 53 false (.load K0 (.t 54)),
 OG 56 53 false (.faddr 7 (.t 3)),
 OG 57 53 false (.load K0 (.t 56)),
 OG 58 53 false (.bin .neq (.t 55) (.t 57)),
 O 59 (.pick (.t 53) (.c (.b true)) (.t 58)),
 O 60 (.mov (.t 59)),
 OG 61 60 false (.faddr 8 (.t 2)),
 OG 62 60 false (.load K0 (.t 61)),
 OG 63 60 false (.faddr 8 (.t 3)),
 OG 64 60 false (.load K0 (.t 63)),
 OG 65 60 false (.bin .neq (.t 62) (.t 64)),
 O 66 (.pick (.t 60) (.c (.b true)) (.t 65))] [65, 64, 63, 62, 61, 60, 59, 58, 57, 56, 55, 54, 53, 52, 51, 50, 49, 48, 47, 46, 45, 44, 43, 42, 41, 40, 39, 38, 37, 36, 35, 34, 33, 32, 31, 30, 29, 28, 27, 26, 25, 24, 23, 22, 21, 20, 19, 18, 17, 16, 15, 14, 13, 12, 11, 10, 9, 8, 7, 6]) (
 .cond (.t 66) (sq (.reg [
 O 4 (.mov (.c (.b false)))] []) (
 .ret))
 (.skip))) (
 sq (sq (.reg [
 O 67 (.faddr 9 (.t 2)),
 O 68 (.load (K1 12) (.t 67)),
 O 69 (.faddr 9 (.t 3)),
 O 70 (.load (K1 12) (.t 69)),
 O 71 (.eqv true [1, 1, 1, 1, 1, 1, 1, 1, 1, 1, 3, 3] (.t 68) (.t 70)),
 O 72 (.mov (.t 71)),
 OG 73 72 false (.faddr 21 (.t 2)),
 OG 74 72 false (.load (K1 7) (.t 73)),
 OG 75 72 false (.faddr 21 (.t 3)),
 OG 76 72 false (.load (K1 7) (.t 75)),
 OG 77 72 false (.eqv true [3, 1, 1, 1, 1, 1, 3] (.t 74) (.t 76)),
 O 78 (.pick (.t 72) (.c (.b true)) (.t 77)),
 O 79 (.mov (.t 78)),
 OG 80 79 false (.faddr 28 (.t 2)),
 OG 81 79 false (.load K0 (.t 80)),
 OG 82 79 false (.len false (.t 81)),
 OG 83 79 false (.faddr 28 (.t 3)),
 OG 84 79 false (.load K0 (.t 83)),
 OG 85 79 false (.len false (.t 84)),
 OG 86 79 false (.bin .neq (.t 82) (.t 85)),
 O 87 (.pick (.t 79) (.c (.b true)) (.t 86))] [86, 85, 84, 83, 82, 81, 80, 79, 78, 77, 76, 75, 74, 73, 72, 71, 70, 69, 68, 67]) (
 .cond (.t 87) (sq (.reg [
 O 4 (.mov (.c (.b false)))] []) (
 .ret))
 (.skip))) (
 sq (sq (.reg [
 O 5 (.mov (.c (I 0)))] []) (
 .block 0 (
 .loop [2, 3, 5] L144_0))) (
 sq (.reg [
 O 4 (.mov (.c (.b true)))] []) (
 .ret)))))⟩
def L145_0 : PC :=
 sq (sq (.reg [
 O 11 (.mov (.t 5)),
 O 12 (.mov (.t 0)),
 O 13 (.len false (.t 12)),
 O 14 (.bin .lss (.t 11) (.t 13))] [13, 12, 11]) (
 .cond (.t 14) (.skip)
 (.exit 0))) (
 sq (.block 1 (
 sq (.regD [
 O 17 (.mov (.t 0)),
 O 18 (.mov (.t 5)),
 O 19 (.iaddr (K1 5) (.t 17) (.t 18)),
 O 20 (.load (K1 5) (.t 19)),
 O 21 (.mov (.t 1)),
 O 22 (.mov (.t 5)),
 O 23 (.iaddr (K1 5) (.t 21) (.t 22)),
 O 24 (.load (K1 5) (.t 23)),
 O 25 (.eqv true [1, 3, 3, 3, 1] (.t 20) (.t 24))] [0, 0, 3, 7, 0, 0, 48, 112, 255] [24, 23, 22, 21, 20, 19, 18, 17]) (
 .cond (.t 25) (sq (.reg [
 O 4 (.mov (.c (.b false)))] []) (
 .ret))
 (.skip)))) (
 .reg [
 O 15 (.mov (.t 5)),
 O 16 (.bin .add (.t 15) (.c (I 1))),
 O 5 (.mov (.t 16))] [16, 15]))
def F145 : PF := ⟨2, [.t 4],
 sq (.reg [
 O 4 (.mov (.c (.b false)))] [4]) (
 sq (sq (.reg [
 O 6 (.mov (.t 0)),
 O 7 (.len false (.t 6)),
 O 8 (.mov (.t 1)),
 O 9 (.len false (.t 8)),
 O 10 (.bin .neq (.t 7) (.t 9))] [9, 8, 7, 6]) (
 .cond (.t 10) (sq (.reg [
 O 4 (.mov (.c (.b false)))] []) (
 .ret))
 (.skip))) (
 sq (sq (.reg [
 O 5 (.mov (.c (I 0)))] []) (
 .block 0 (
 .loop [0, 1, 5] L145_0))) (
 sq (.reg [
 O 4 (.mov (.c (.b true)))] []) (
 .ret))))⟩
def F146 : PF := ⟨1, [.c 2 (K1 22)],
 sq (.reg [
 O 1 (.box (K1 22) (.t 0)),
 O 2 (.alloc (K1 22) (.a [(.l (K1 2) [] true), (.l (K1 3) [] true), (.l (K1 4) [] true), (I 0), (I 0), (I 0), (I 0), (I 0), (I 0), (I 0), (I 0), (I 0), (I 0), (I 0), (I 0), (I 0), (I 0), (.l (K1 19) [] true), (.l (K1 7) [] true), (.l (K1 10) [] true), (.l (K1 6) [] true), (.l (K1 7) [] true)]))] [0]) (
 sq (.regD [
 O 3 (.faddr 0 (.t 1)),
 O 4 (.load K0 (.t 3)),
 O 5 (.call 1 225 [(.t 4)]),
 O 6 (.faddr 2 (.t 1)),
 O 7 (.load K0 (.t 6)),
 O 8 (.call 1 226 [(.t 7)]),
 O 9 (.faddr 18 (.t 1)),
 O 10 (.load K0 (.t 9)),
 O 11 (.call 1 227 [(.t 10)]),
 O 12 (.faddr 0 (.t 1)),
 E (.store K0 (.t 12) (.t 5)),
 O 13 (.faddr 2 (.t 1)),
 E (.store K0 (.t 13) (.t 8)),
 O 14 (.faddr 18 (.t 1)),
 E (.store K0 (.t 14) (.t 11))] [0, 1, 3, 0, 8, 31, 0, 64, 255, 223, 1023, 2047, 4095, 8191, 16383] [14, 13, 12, 11, 10, 9, 8, 7, 6, 5, 4, 3]) (
 sq (.regD [
 O 15 (.faddr 20 (.t 1)),
 O 16 (.load K0 (.t 15)),
 O 17 (.call 1 228 [(.t 16)]),
 O 18 (.faddr 21 (.t 1)),
 O 19 (.load K0 (.t 18)),
 O 20 (.call 1 229 [(.t 19)]),
 O 21 (.faddr 20 (.t 1)),
 E (.store K0 (.t 21) (.t 17)),
 O 22 (.faddr 21 (.t 1)),
 E (.store K0 (.t 22) (.t 20))] [0, 1, 3, 0, 8, 31, 31, 127, 255, 511] [22, 21, 20, 19, 18, 17, 16, 15]) (
 sq (.reg [
 O 23 (.faddr 1 (.t 1)),
 O 24 (.load K0 (.t 23)),
 O 25 (.call 2 230 [(.t 24), (.f 231)]),
 O 26 (.faddr 1 (.t 1)),
 E (.store K0 (.t 26) (.t 25))] [26, 25, 24, 23]) (
 sq (.reg [
 O 27 (.faddr 17 (.t 1)),
 O 28 (.load K0 (.t 27)),
 O 29 (.call 2 232 [(.t 28), (.f 233)]),
 O 30 (.faddr 17 (.t 1)),
 E (.store K0 (.t 30) (.t 29))] [30, 29, 28, 27]) (
 sq (.reg [
 O 31 (.faddr 19 (.t 1)),
 O 32 (.load K0 (.t 31)),
 O 33 (.call 0 234 [(.t 32)]),
 O 34 (.faddr 19 (.t 1)),
 E (.store K0 (.t 34) (.t 33))] [34, 33, 32, 31]) (
 sq (.reg [
 O 35 (.load (K1 22) (.t 1)),
 E (.store (K1 22) (.t 2) (.t 35))] [1, 35]) (
 .ret)))))))⟩
def F154 : PF := eachF (K1 25) 248 (.a [(I 0), (I 0), (I 0), (I 0), (I 0), (I 0), (I 0), (I 0), (I 0), (I 0), (I 0), (I 0), (I 0), (I 0), (I 0), (I 0), (I 0), (I 0), (I 0), (I 0), (I 0), (.s []), (.s []), (.l (K1 4) [] true), (.l (K1 14) [] true)])
def F155 : PF := eachF (K1 7) 72 (.a [(I 0), (I 0), (I 0), (I 0), (I 0), (I 0), (.l (K1 4) [] true)])
def F158 : PF := eachF (K1 35) 368 (.a [(I 0), (I 0), (I 0), (I 0), (.s []), (.s []), (I 0), (I 0), (I 0), (I 0), (I 0), (I 0), (.s []), (.s []), (.s []), (I 0), (I 0), (I 0), (I 0), (I 0), (I 0), (I 0), (I 0), (I 0), (I 0), (.s []), (.s []), (.s []), (I 0), (I 0), (I 0), (I 0), (I 0), (.s []), (.l K0 [] true)])
end Go.Sim

