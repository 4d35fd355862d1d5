/- Part 9 of the proof: CbGe, CbC52Z, CbSimG, CbSimLd, CbDg. -/
import Derived.Test.YtpjacfiddgajfaaGreatDoorYB2
import Derived.Test.YtpjacfiddgajfaaGreatDoorYB5
import Derived.ChangeArms
import Derived.OpenShut
import Derived.Deep.Slices
import Derived.WideShapes
import Derived.Test.YtpjacfiddgajfaaGreatDoorYB6
import Derived.ProofKit
import Derived.LaidMore
section
namespace Go.Sim
def eachL (k : K) (b : Nat) (z : DV) : PC :=
 sq (.reg [
 O 14 (.bin .lss (.t 13) (.t 12))] []) (
 sq (.cond (.t 14) (.skip)
 (.exit 0)) (
 sq (.block 1 (
 sq (.reg [
 O 15 (.iaddr k (.t 11) (.t 13)),
 O 16 (.load k (.t 15)),
 O 7 (.alloc k z),
 E (.store k (.t 7) (.t 16))] [16, 15]) (
 .reg [
 O 17 (.mov (.t 5)),
 O 18 (.mov (.t 1)),
 O 19 (.load k (.t 7)),
 O 20 (.callv (.t 18) [(.t 19)]),
 O 21 (.bsl k z 1 [(0, (.t 20))]),
 O 22 (.app k b (.t 17) (.t 21)),
 O 5 (.mov (.t 22))] [22, 21, 20, 7, 19, 18, 17]))) (
 .reg [
 O 23 (.bin .add (.t 13) (.c (I 1))),
 O 13 (.mov (.t 23))] [23])))
def eachF (k : K) (b : Nat) (z : DV) : PF := ⟨2, [.t 4],
 sq (.reg [
 O 4 (.mov (.c (.l k [] true)))] [4]) (
 sq (.reg [
 O 8 (.mov (.t 0)),
 O 9 (.len false (.t 8)),
 O 10 (.mksl k b z (.c (I 0)) (.t 9)),
 O 5 (.mov (.t 10))] [10, 9, 8]) (
 sq (sq (.reg [
 O 11 (.mov (.t 0)),
 O 12 (.len false (.t 11)),
 O 13 (.mov (.c (I 0)))] [0]) (
 .block 0 (
 .loop [1, 5, 11, 12, 13] (eachL k b z)))) (
 sq (.reg [
 O 24 (.mov (.t 5)),
 O 4 (.mov (.t 24))] [5, 24]) (
 .ret))))⟩
end Go.Sim
end
section
namespace Go.Sim
def F9 : PF := ⟨2, [.t 4],
 sq (.reg [
 O 2 (.box (K1 10) (.t 0)),
 O 3 (.box (K1 10) (.t 1)),
 O 4 (.mov (.c (.b false)))] [4, 1, 0]) (
 sq (.reg [
 O 5 (.faddr 0 (.t 2)),
 O 6 (.load K0 (.t 5)),
 O 7 (.faddr 0 (.t 3)),
 O 8 (.load K0 (.t 7)),
 O 9 (.bin .eql (.t 6) (.t 8)),
 O 10 (.mov (.t 9)),
 OG 11 10 true (.faddr 1 (.t 2)),
 OG 12 10 true (.load K0 (.t 11)),
 OG 13 10 true (.faddr 1 (.t 3)),
 OG 14 10 true (.load K0 (.t 13)),
 OG 15 10 true (.bin .eql (.t 12) (.t 14)),
 O 16 (.pick (.t 10) (.t 15) (.c (.b false))),
 O 17 (.mov (.t 16)),
 OG 18 17 true (.faddr 2 (.t 2)),
 OG 19 17 true (.load K0 (.t 18)),
 OG 20 17 true (.faddr 2 (.t 3)),
 OG 21 17 true (.load K0 (.t 20)),
 OG 22 17 true (.bin .eql (.t 19) (.t 21)),
 O 23 (.pick (.t 17) (.t 22) (.c (.b false))),
 O 24 (.mov (.t 23)),
 OG 25 24 true (.faddr 3 (.t 2)),
 OG 26 24 true (.load K0 (.t 25)),
 OG 27 24 true (.faddr 3 (.t 3)),
 OG 28 24 true (.load K0 (.t 27)),
 OG 29 24 true (.bin .eql (.t 26) (.t 28)),
 O 30 (.pick (.t 24) (.t 29) (.c (.b false))),
 O 31 (.mov (.t 30)),
 OG 32 31 true (.faddr 4 (.t 2)),
 OG 33 31 true (.load K0 (.t 32)),
 OG 34 31 true (.faddr 4 (.t 3)),
 OG 35 31 true (.load K0 (.t 34)),
 OG 36 31 true (.bin .eql (.t 33) (.t 35)),
 O 37 (.pick (.t 31) (.t 36) (.c (.b false))),
 O 38 (.mov (.t 37)),
 OG 39 38 true (.faddr 5 (.t 2)),
 OG 40 38 true (.load K0 (.t 39)),
 OG 41 38 true (.faddr 5 (.t 3)),
 OG 42 38 true (.load K0 (.t 41)),
 OG 43 38 true (.bin .eql (.t 40) (.t 42)),
 O 44 (.pick (.t 38) (.t 43) (.c (.b false))),
 O 45 (.mov (.t 44)),
 OG 46 45 true (.faddr 6 (.t 2)),
 OG 47 45 true (.load K0 (.t 46)),
 OG 48 45 true (.faddr 6 (.t 3)),
 OG 49 45 true (.load K0 (.t 48)),
 OG 50 45 true (.bin .eql (.t 47) (.t 49)),
 O 51 (.pick (.t 45) (.t 50) (.c (.b false))),
 O 52 (.mov (.t 51)),
 OG 53 52 true (.faddr 7 (.t 2)),
 OG 54 52 true (.load K0 (.t 53)),
 OG 55 52 true (.faddr 7 (.t 3)),
 OG 56 52 true (.load K0 (.t 55)),
 OG 57 52 true (.bin .eql (.t 54) (.t 56)),
 O 58 (.pick (.t 52) (.t 57) (.c (.b false))),
 O 59 (.mov (.t 58)),
 OG 60 59 true (.faddr 9 (.t 2)),
 OG 61 59 true (.load K0 (.t 60)),
 OG 62 59 true (.faddr 9 (.t 3)),
 OG 63 59 true (.load K0 (.t 62)),
 OG 64 59 true (.bin .eql (.t 61) (.t 63)),
 O 65 (.pick (.t 59) (.t 64) (.c (.b false))),
 O 66 (.mov (.t 65)),
 OG 67 66 true (.faddr 8 (.t 2)),
 OG 68 66 true (.load K0 (.t 67)),
 OG 69 66 true (.faddr 8 (.t 3)),
 OG 70 66 true (.load K0 (.t 69)),
 OG 71 66 true (.call 0 14 [(.t 68), (.t 70)]),
 O 72 (.pick (.t 66) (.t 71) (.c (.b false))),
 O 4 (.mov (.t 72))] [72, 71, 70, 69, 68, 67, 66, 65, 64, 63, 62, 61, 60, 59, 58, 57, 56, 55, 54, 53, 52, 51, 50, 49, 48, 47, 46, 45, 44, 43, 42, 41, 40, 39, 38, 37, 36, 35, 34, 33, 32, 31, 30, 29, 28, 27, 26, 25, 24, 23, 22, 21, 20, 19, 18, 17, 16, 15, 14, 13, 12, 11, 10, 9, 8, 3, 7, 6, 2, 5]) (
 .ret))⟩
def L14_0 : PC :=
 sq (sq (.reg [
 O 11 (.mov (.t 5)),
 O 12 (.mov (.t 0)),
 O 13 (.len false (.t 12)),
 O 14 (.bin .lss (.t 11) (.t 13))] [13, 12, 11]) (
 .cond (.t 14) (.skip)
 (.exit 0))) (
 sq (.block 1 (
 sq (.regD [
 O 17 (.mov (.t 0)),
 O 18 (.mov (.t 5)),
 O 19 (.iaddr (K1 3) (.t 17) (.t 18)),
 O 20 (.load (K1 3) (.t 19)),
 O 21 (.mov (.t 1)),
 O 22 (.mov (.t 5)),
 O 23 (.iaddr (K1 3) (.t 21) (.t 22)),
 O 24 (.load (K1 3) (.t 23)),
 O 25 (.eqv true [1, 1, 3] (.t 20) (.t 24))] [0, 0, 3, 7, 0, 0, 48, 112, 255] [24, 23, 22, 21, 20, 19, 18, 17]) (
 .cond (.t 25) (sq (.reg [
 O 4 (.mov (.c (.b false)))] []) (
 .ret))
 (.skip)))) (
 .reg [
 O 15 (.mov (.t 5)),
 O 16 (.bin .add (.t 15) (.c (I 1))),
 O 5 (.mov (.t 16))] [16, 15]))
def F14 : PF := ⟨2, [.t 4],
 sq (.reg [
 O 4 (.mov (.c (.b false)))] [4]) (
 sq (sq (.reg [
 O 6 (.mov (.t 0)),
 O 7 (.len false (.t 6)),
 O 8 (.mov (.t 1)),
 O 9 (.len false (.t 8)),
 O 10 (.bin .neq (.t 7) (.t 9))] [9, 8, 7, 6]) (
 .cond (.t 10) (sq (.reg [
 O 4 (.mov (.c (.b false)))] []) (
 .ret))
 (.skip))) (
 sq (sq (.reg [
 O 5 (.mov (.c (I 0)))] []) (
 .block 0 (
 .loop [0, 1, 5] L14_0))) (
 sq (.reg [
 O 4 (.mov (.c (.b true)))] []) (
 .ret))))⟩
def L77_0 : PC :=
 sq (sq (.reg [
 O 86 (.mov (.t 3)),
 O 87 (.faddr 3 (.t 1)),
 O 88 (.faddr 18 (.t 87)),
 O 89 (.load K0 (.t 88)),
 O 90 (.len false (.t 89)),
 O 91 (.bin .lss (.t 86) (.t 90)),
 O 92 (.mov (.t 91)),
 OG 93 92 true (.faddr 0 (.t 1)),
 OG 94 92 true (.load K0 (.t 93)),
 OG 95 92 true (.bin .geq (.t 94) (.c (I 0))),
 O 96 (.pick (.t 92) (.t 95) (.c (.b false))),
 O 97 (.mov (.t 96)),
 OG 98 97 true (.faddr 0 (.t 1)),
 OG 99 97 true (.load K0 (.t 98)),
 OG 100 97 true (.bin .leq (.t 99) (.c (I 73048))),
 O 101 (.pick (.t 97) (.t 100) (.c (.b false)))] [100, 99, 98, 97, 96, 95, 94, 93, 92, 91, 90, 89, 88, 87, 86]) (
 .cond (.t 101) (.skip)
 (.exit 0))) (
 sq (.block 1 (
 sq (.reg [
 O 104 (.faddr 3 (.t 1)),
 O 105 (.faddr 18 (.t 104)),
 O 106 (.load K0 (.t 105)),
 O 107 (.mov (.t 3)),
 O 108 (.iaddr (K1 7) (.t 106) (.t 107)),
 O 109 (.faddr 1 (.t 108)),
 O 110 (.load K0 (.t 109)),
 O 4 (.mov (.t 110))] [110, 109, 108, 107, 106, 105, 104]) (
 sq (.reg [
 O 111 (.mov (.t 4)),
 O 112 (.bin .geq (.t 111) (.c (I 0))),
 O 113 (.mov (.t 112)),
 OG 114 113 true (.mov (.t 4)),
 OG 115 113 true (.faddr 0 (.t 1)),
 OG 116 113 true (.load K0 (.t 115)),
 OG 117 113 true (.bin .sub (.t 116) (.c (I 800))),
 OG 118 113 true (.bin .lss (.t 114) (.t 117)),
 O 119 (.pick (.t 113) (.t 118) (.c (.b false)))] [118, 117, 116, 115, 114, 113, 112, 4, 111]) (
 .cond (.t 119) (sq (.reg [
 O 2 (.mov (.c (.b false)))] []) (
 .ret))
 (.skip))))) (
 .reg [
 O 102 (.mov (.t 3)),
 O 103 (.bin .add (.t 102) (.c (I 1))),
 O 3 (.mov (.t 103))] [103, 102]))
def L77_1 : PC :=
 sq (sq (.reg [
 O 120 (.mov (.t 5)),
 O 121 (.faddr 25 (.t 1)),
 O 122 (.load K0 (.t 121)),
 O 123 (.len false (.t 122)),
 O 124 (.bin .lss (.t 120) (.t 123)),
 O 125 (.mov (.t 124)),
 OG 126 125 true (.faddr 0 (.t 1)),
 OG 127 125 true (.load K0 (.t 126)),
 OG 128 125 true (.bin .geq (.t 127) (.c (I 0))),
 O 129 (.pick (.t 125) (.t 128) (.c (.b false))),
 O 130 (.mov (.t 129)),
 OG 131 130 true (.faddr 0 (.t 1)),
 OG 132 130 true (.load K0 (.t 131)),
 OG 133 130 true (.bin .leq (.t 132) (.c (I 73048))),
 O 134 (.pick (.t 130) (.t 133) (.c (.b false)))] [133, 132, 131, 130, 129, 128, 127, 126, 125, 124, 123, 122, 121, 120]) (
 .cond (.t 134) (.skip)
 (.exit 2))) (
 sq (.block 3 (
 sq (.regD [
 O 137 (.faddr 25 (.t 1)),
 O 138 (.load K0 (.t 137)),
 O 139 (.mov (.t 5)),
 O 140 (.iaddr (K1 11) (.t 138) (.t 139)),
 O 141 (.faddr 2 (.t 140)),
 O 142 (.load K0 (.t 141)),
 O 143 (.faddr 0 (.t 1)),
 O 144 (.load K0 (.t 143)),
 O 145 (.bin .add (.t 144) (.c (I 400))),
 O 146 (.bin .gtr (.t 142) (.t 145))] [0, 1, 0, 7, 15, 31, 0, 64, 192, 511] [145, 144, 143, 142, 141, 140, 139, 138, 137]) (
 .cond (.t 146) (sq (.reg [
 O 2 (.mov (.c (.b false)))] []) (
 .ret))
 (.skip)))) (
 .reg [
 O 135 (.mov (.t 5)),
 O 136 (.bin .add (.t 135) (.c (I 1))),
 O 5 (.mov (.t 136))] [136, 135]))
def L77_2 : PC :=
 sq (sq (.reg [
 O 147 (.mov (.t 6)),
 O 148 (.faddr 25 (.t 1)),
 O 149 (.load K0 (.t 148)),
 O 150 (.len false (.t 149)),
 O 151 (.bin .lss (.t 147) (.t 150))] [150, 149, 148, 147]) (
 .cond (.t 151) (.skip)
 (.exit 4))) (
 sq (.block 5 (
 sq (.reg [
 O 154 (.faddr 25 (.t 1)),
 O 155 (.load K0 (.t 154)),
 O 156 (.mov (.t 6)),
 O 157 (.iaddr (K1 11) (.t 155) (.t 156)),
 O 158 (.faddr 6 (.t 157)),
 O 159 (.load K0 (.t 158)),
 O 160 (.bin .gtr (.t 159) (.c (I 1099511627776)))] [159, 158, 157, 156, 155, 154]) (
 .cond (.t 160) (sq (.reg [
 O 2 (.mov (.c (.b false)))] []) (
 .ret))
 (.skip)))) (
 .reg [
 O 152 (.mov (.t 6)),
 O 153 (.bin .add (.t 152) (.c (I 1))),
 O 6 (.mov (.t 153))] [153, 152]))
def L77_3 : PC :=
 sq (sq (.reg [
 O 165 (.mov (.t 7)),
 O 166 (.faddr 26 (.t 1)),
 O 167 (.load K0 (.t 166)),
 O 168 (.len false (.t 167)),
 O 169 (.bin .lss (.t 165) (.t 168))] [168, 167, 166, 165]) (
 .cond (.t 169) (.skip)
 (.exit 6))) (
 sq (.block 7 (
 sq (.reg [
 O 172 (.faddr 26 (.t 1)),
 O 173 (.load K0 (.t 172)),
 O 174 (.mov (.t 7)),
 O 175 (.iaddr (K1 25) (.t 173) (.t 174)),
 O 176 (.faddr 23 (.t 175)),
 O 177 (.load K0 (.t 176)),
 O 178 (.len false (.t 177)),
 O 179 (.bin .gtr (.t 178) (.c (I 60))),
 O 180 (.mov (.t 179)),
 OG 181 180 false (.faddr 26 (.t 1)),
 OG 182 180 false (.load K0 (.t 181)),
 OG 183 180 false (.mov (.t 7)),
 OG 184 180 false (.iaddr (K1 25) (.t 182) (.t 183)),
 OG 185 180 false (.faddr 24 (.t 184)),
 OG 186 180 false (.load K0 (.t 185)),
 OG 187 180 false (.len false (.t 186)),
 OG 188 180 false (.bin .gtr (.t 187) (.c (I 10))),
 O 189 (.pick (.t 180) (.c (.b true)) (.t 188))] [188, 187, 186, 185, 184, 183, 182, 181, 180, 179, 178, 177, 176, 175, 174, 173, 172]) (
 .cond (.t 189) (sq (.reg [
 O 2 (.mov (.c (.b false)))] []) (
 .ret))
 (.skip)))) (
 .reg [
 O 170 (.mov (.t 7)),
 O 171 (.bin .add (.t 170) (.c (I 1))),
 O 7 (.mov (.t 171))] [171, 170]))
def F77 : PF := ⟨1, [.t 2],
 sq (.reg [
 O 1 (.box (K1 42) (.t 0)),
 O 2 (.mov (.c (.b false)))] [2, 0]) (
 sq (sq (.reg [
 O 8 (.faddr 3 (.t 1)),
 O 9 (.load (K1 22) (.t 8)),
 O 10 (.call 0 85 [(.t 9)]),
 O 11 (.un .not (.t 10)),
 O 12 (.mov (.t 11)),
 OG 13 12 false (.faddr 25 (.t 1)),
 OG 14 12 false (.load K0 (.t 13)),
 OG 15 12 false (.len false (.t 14)),
 OG 16 12 false (.bin .gtr (.t 15) (.c (I 60))),
 O 17 (.pick (.t 12) (.c (.b true)) (.t 16)),
 O 18 (.mov (.t 17)),
 OG 19 18 false (.faddr 26 (.t 1)),
 OG 20 18 false (.load K0 (.t 19)),
 OG 21 18 false (.len false (.t 20)),
 OG 22 18 false (.bin .gtr (.t 21) (.c (I 8))),
 O 23 (.pick (.t 18) (.c (.b true)) (.t 22)),
 O 24 (.mov (.t 23)),
 OG 25 24 false (.faddr 27 (.t 1)),
 OG 26 24 false (.load K0 (.t 25)),
 OG 27 24 false (.len false (.t 26)),
 OG 28 24 false (.bin .gtr (.t 27) (.c (I 20))),
 O 29 (.pick (.t 24) (.c (.b true)) (.t 28)),
 O 30 (.mov (.t 29)),
 OG 31 30 false (.faddr 28 (.t 1)),
 OG 32 30 false (.load K0 (.t 31)),
 OG 33 30 false (.len false (.t 32)),
 OG 34 30 false (.bin .gtr (.t 33) (.c (I 20))),
 O 35 (.pick (.t 30) (.c (.b true)) (.t 34)),
 O 36 (.mov (.t 35)),
 OG 37 36 false (.faddr 29 (.t 1)),
 OG 38 36 false (.load K0 (.t 37)),
 OG 39 36 false (.len false (.t 38)),
 OG 40 36 false (.bin .gtr (.t 39) (.c (I 20))),
 O 41 (.pick (.t 36) (.c (.b true)) (.t 40)),
 O 42 (.mov (.t 41)),
 OG 43 42 false (.faddr 30 (.t 1)),
 OG 44 42 false (.load K0 (.t 43)),
 OG 45 42 false (.len false (.t 44)),
 OG 46 42 false (.bin .gtr (.t 45) (.c (I 20))),
 O 47 (.pick (.t 42) (.c (.b true)) (.t 46)),
 O 48 (.mov (.t 47)),
 OG 49 48 false (.faddr 31 (.t 1)),
 OG 50 48 false (.load K0 (.t 49)),
 OG 51 48 false (.len false (.t 50)),
 OG 52 48 false (.bin .gtr (.t 51) (.c (I 40))),
 O 53 (.pick (.t 48) (.c (.b true)) (.t 52)),
 O 54 (.mov (.t 53)),
 OG 55 54 false (.faddr 32 (.t 1)),
 OG 56 54 false (.load K0 (.t 55)),
 OG 57 54 false (.len false (.t 56)),
 OG 58 54 false (.bin .gtr (.t 57) (.c (I 20))),
 O 59 (.pick (.t 54) (.c (.b true)) (.t 58)),
 O 60 (.mov (.t 59)),
 OG 61 60 false (.faddr 33 (.t 1)),
 OG 62 60 false (.load K0 (.t 61)),
 OG 63 60 false (.len false (.t 62)),
 OG 64 60 false (.bin .gtr (.t 63) (.c (I 20))),
 O 65 (.pick (.t 60) (.c (.b true)) (.t 64)),
 O 66 (.mov (.t 65)),
 OG 67 66 false (.faddr 34 (.t 1)),
 OG 68 66 false (.load K0 (.t 67)),
 OG 69 66 false (.len false (.t 68)),
 OG 70 66 false (.bin .gtr (.t 69) (.c (I 90))),
 O 71 (.pick (.t 66) (.c (.b true)) (.t 70)),
 O 72 (.mov (.t 71)),
 OG 73 72 false (.faddr 39 (.t 1)),
 OG 74 72 false (.faddr 1 (.t 73)),
 OG 75 72 false (.load K0 (.t 74)),
 OG 76 72 false (.len false (.t 75)),
 OG 77 72 false (.bin .gtr (.t 76) (.c (I 20))),
 O 78 (.pick (.t 72) (.c (.b true)) (.t 77)),
 O 79 (.mov (.t 78)),
 OG 80 79 false (.faddr 39 (.t 1)),
 OG 81 79 false (.faddr 2 (.t 80)),
 OG 82 79 false (.load K0 (.t 81)),
 OG 83 79 false (.len false (.t 82)),
 OG 84 79 false (.bin .gtr (.t 83) (.c (I 20))),
 O 85 (.pick (.t 79) (.c (.b true)) (.t 84))] [84, 83, 82, 81, 80, 79, 78, 77, 76, 75, 74, 73, 72, 71, 70, 69, 68, 67, 66, 65, 64, 63, 62, 61, 60, 59, 58, 57, 56, 55, 54, 53, 52, 51, 50, 49, 48, 47, 46, 45, 44, 43, 42, 41, 40, 39, 38, 37, 36, 35, 34, 33, 32, 31, 30, 29, 28, 27, 26, 25, 24, 23, 22, 21, 20, 19, 18, 17, 16, 15, 14, 13, 12, 11, 10, 9, 8]) (
 .cond (.t 85) (sq (.reg [
 O 2 (.mov (.c (.b false)))] []) (
 .ret))
 (.skip))) (
 sq (sq (.reg [
 O 3 (.mov (.c (I 0)))] []) (
 .block 0 (
 .loop [1, 3] L77_0))) (
 sq (sq (.reg [
 O 5 (.mov (.c (I 0)))] []) (
 .block 2 (
 .loop [1, 5] L77_1))) (
 sq (sq (.reg [
 O 6 (.mov (.c (I 0)))] []) (
 .block 4 (
 .loop [1, 6] L77_2))) (
 sq (sq (.reg [
 O 161 (.faddr 35 (.t 1)),
 O 162 (.faddr 3 (.t 161)),
 O 163 (.load K0 (.t 162)),
 O 164 (.bin .gtr (.t 163) (.c (I 1099511627776)))] [163, 162, 161]) (
 .cond (.t 164) (sq (.reg [
 O 2 (.mov (.c (.b false)))] []) (
 .ret))
 (.skip))) (
 sq (sq (.reg [
 O 7 (.mov (.c (I 0)))] []) (
 .block 6 (
 .loop [1, 7] L77_3))) (
 sq (.reg [
 O 2 (.mov (.c (.b true)))] []) (
 .ret))))))))⟩
def L85_0 : PC :=
 sq (sq (.reg [
 O 51 (.mov (.t 3)),
 O 52 (.faddr 1 (.t 1)),
 O 53 (.load K0 (.t 52)),
 O 54 (.len false (.t 53)),
 O 55 (.bin .lss (.t 51) (.t 54))] [54, 53, 52, 51]) (
 .cond (.t 55) (.skip)
 (.exit 0))) (
 sq (.block 1 (
 sq (.reg [
 O 58 (.faddr 1 (.t 1)),
 O 59 (.load K0 (.t 58)),
 O 60 (.mov (.t 3)),
 O 61 (.iaddr (K1 3) (.t 59) (.t 60)),
 O 62 (.faddr 2 (.t 61)),
 O 63 (.load K0 (.t 62)),
 O 64 (.len false (.t 63)),
 O 65 (.bin .gtr (.t 64) (.c (I 40))),
 O 66 (.mov (.t 65)),
 OG 67 66 false (.faddr 1 (.t 1)),
 OG 68 66 false (.load K0 (.t 67)),
 OG 69 66 false (.mov (.t 3)),
 OG 70 66 false (.iaddr (K1 3) (.t 68) (.t 69)),
 OG 71 66 false (.faddr 1 (.t 70)),
 OG 72 66 false (.load K0 (.t 71)),
 OG 73 66 false (.len false (.t 72)),
 OG 74 66 false (.bin .gtr (.t 73) (.c (I 10))),
 O 75 (.pick (.t 66) (.c (.b true)) (.t 74))] [74, 73, 72, 71, 70, 69, 68, 67, 66, 65, 64, 63, 62, 61, 60, 59, 58]) (
 .cond (.t 75) (sq (.reg [
 O 2 (.mov (.c (.b false)))] []) (
 .ret))
 (.skip)))) (
 .reg [
 O 56 (.mov (.t 3)),
 O 57 (.bin .add (.t 56) (.c (I 1))),
 O 3 (.mov (.t 57))] [57, 56]))
def L85_1 : PC :=
 sq (sq (.reg [
 O 76 (.mov (.t 4)),
 O 77 (.faddr 19 (.t 1)),
 O 78 (.load K0 (.t 77)),
 O 79 (.len false (.t 78)),
 O 80 (.bin .lss (.t 76) (.t 79))] [79, 78, 77, 76]) (
 .cond (.t 80) (.skip)
 (.exit 2))) (
 sq (.block 3 (
 sq (.reg [
 O 83 (.faddr 19 (.t 1)),
 O 84 (.load K0 (.t 83)),
 O 85 (.mov (.t 4)),
 O 86 (.iaddr (K1 10) (.t 84) (.t 85)),
 O 87 (.faddr 8 (.t 86)),
 O 88 (.load K0 (.t 87)),
 O 89 (.len false (.t 88)),
 O 90 (.bin .gtr (.t 89) (.c (I 12)))] [89, 88, 87, 86, 85, 84, 83]) (
 .cond (.t 90) (sq (.reg [
 O 2 (.mov (.c (.b false)))] []) (
 .ret))
 (.skip)))) (
 .reg [
 O 81 (.mov (.t 4)),
 O 82 (.bin .add (.t 81) (.c (I 1))),
 O 4 (.mov (.t 82))] [82, 81]))
def F85 : PF := ⟨1, [.t 2],
 sq (.reg [
 O 1 (.box (K1 22) (.t 0)),
 O 2 (.mov (.c (.b false)))] [2, 0]) (
 sq (sq (.reg [
 O 5 (.faddr 18 (.t 1)),
 O 6 (.load K0 (.t 5)),
 O 7 (.len false (.t 6)),
 O 8 (.bin .gtr (.t 7) (.c (I 8))),
 O 9 (.mov (.t 8)),
 OG 10 9 false (.faddr 19 (.t 1)),
 OG 11 9 false (.load K0 (.t 10)),
 OG 12 9 false (.len false (.t 11)),
 OG 13 9 false (.bin .gtr (.t 12) (.c (I 90))),
 O 14 (.pick (.t 9) (.c (.b true)) (.t 13)),
 O 15 (.mov (.t 14)),
 OG 16 15 false (.faddr 2 (.t 1)),
 OG 17 15 false (.load K0 (.t 16)),
 OG 18 15 false (.len false (.t 17)),
 OG 19 15 false (.bin .gtr (.t 18) (.c (I 40))),
 O 20 (.pick (.t 15) (.c (.b true)) (.t 19)),
 O 21 (.mov (.t 20)),
 OG 22 21 false (.faddr 17 (.t 1)),
 OG 23 21 false (.load K0 (.t 22)),
 OG 24 21 false (.len false (.t 23)),
 OG 25 21 false (.bin .gtr (.t 24) (.c (I 12))),
 O 26 (.pick (.t 21) (.c (.b true)) (.t 25)),
 O 27 (.mov (.t 26)),
 OG 28 27 false (.faddr 1 (.t 1)),
 OG 29 27 false (.load K0 (.t 28)),
 OG 30 27 false (.len false (.t 29)),
 OG 31 27 false (.bin .gtr (.t 30) (.c (I 4))),
 O 32 (.pick (.t 27) (.c (.b true)) (.t 31)),
 O 33 (.mov (.t 32)),
 OG 34 33 false (.faddr 20 (.t 1)),
 OG 35 33 false (.load K0 (.t 34)),
 OG 36 33 false (.len false (.t 35)),
 OG 37 33 false (.bin .gtr (.t 36) (.c (I 20))),
 O 38 (.pick (.t 33) (.c (.b true)) (.t 37)),
 O 39 (.mov (.t 38)),
 OG 40 39 false (.faddr 21 (.t 1)),
 OG 41 39 false (.load K0 (.t 40)),
 OG 42 39 false (.len false (.t 41)),
 OG 43 39 false (.bin .gtr (.t 42) (.c (I 20))),
 O 44 (.pick (.t 39) (.c (.b true)) (.t 43)),
 O 45 (.mov (.t 44)),
 OG 46 45 false (.faddr 0 (.t 1)),
 OG 47 45 false (.load K0 (.t 46)),
 OG 48 45 false (.len false (.t 47)),
 OG 49 45 false (.bin .gtr (.t 48) (.c (I 8))),
 O 50 (.pick (.t 45) (.c (.b true)) (.t 49))] [49, 48, 47, 46, 45, 44, 43, 42, 41, 40, 39, 38, 37, 36, 35, 34, 33, 32, 31, 30, 29, 28, 27, 26, 25, 24, 23, 22, 21, 20, 19, 18, 17, 16, 15, 14, 13, 12, 11, 10, 9, 8, 7, 6, 5]) (
 .cond (.t 50) (sq (.reg [
 O 2 (.mov (.c (.b false)))] []) (
 .ret))
 (.skip))) (
 sq (sq (.reg [
 O 3 (.mov (.c (I 0)))] []) (
 .block 0 (
 .loop [1, 3] L85_0))) (
 sq (sq (.reg [
 O 4 (.mov (.c (I 0)))] []) (
 .block 2 (
 .loop [1, 4] L85_1))) (
 sq (.reg [
 O 2 (.mov (.c (.b true)))] []) (
 .ret)))))⟩
def L97_0 : PC :=
 sq (sq (.reg [
 O 47 (.mov (.t 5)),
 O 48 (.faddr 19 (.t 2)),
 O 49 (.load K0 (.t 48)),
 O 50 (.len false (.t 49)),
 O 51 (.bin .lss (.t 47) (.t 50))] [50, 49, 48, 47]) (
 .cond (.t 51) (.skip)
 (.exit 0))) (
 sq (.block 1 (
 sq (.regD [
 O 54 (.faddr 19 (.t 2)),
 O 55 (.load K0 (.t 54)),
 O 56 (.mov (.t 5)),
 O 57 (.iaddr (K1 10) (.t 55) (.t 56)),
 O 58 (.load (K1 10) (.t 57)),
 O 59 (.faddr 19 (.t 3)),
 O 60 (.load K0 (.t 59)),
 O 61 (.mov (.t 5)),
 O 62 (.iaddr (K1 10) (.t 60) (.t 61)),
 O 63 (.load (K1 10) (.t 62)),
 O 64 (.call 0 9 [(.t 58), (.t 63)]),
 O 65 (.un .not (.t 64))] [0, 1, 0, 7, 15, 0, 32, 0, 224, 480, 1023, 2047] [64, 63, 62, 61, 60, 59, 58, 57, 56, 55, 54]) (
 .cond (.t 65) (sq (.reg [
 O 4 (.mov (.c (.b false)))] []) (
 .ret))
 (.skip)))) (
 .reg [
 O 52 (.mov (.t 5)),
 O 53 (.bin .add (.t 52) (.c (I 1))),
 O 5 (.mov (.t 53))] [53, 52]))
def L97_1 : PC :=
 sq (sq (.reg [
 O 66 (.mov (.t 6)),
 O 67 (.faddr 20 (.t 2)),
 O 68 (.load K0 (.t 67)),
 O 69 (.len false (.t 68)),
 O 70 (.bin .lss (.t 66) (.t 69))] [69, 68, 67, 66]) (
 .cond (.t 70) (.skip)
 (.exit 2))) (
 sq (.block 3 (
 sq (.regD [
 O 73 (.faddr 20 (.t 2)),
 O 74 (.load K0 (.t 73)),
 O 75 (.mov (.t 6)),
 O 76 (.iaddr (K1 6) (.t 74) (.t 75)),
 O 77 (.load (K1 6) (.t 76)),
 O 78 (.faddr 20 (.t 3)),
 O 79 (.load K0 (.t 78)),
 O 80 (.mov (.t 6)),
 O 81 (.iaddr (K1 6) (.t 79) (.t 80)),
 O 82 (.load (K1 6) (.t 81)),
 O 83 (.eqv true [1, 1, 1, 1, 1, 3] (.t 77) (.t 82))] [0, 1, 0, 7, 15, 0, 32, 0, 224, 480, 1023] [82, 81, 80, 79, 78, 77, 76, 75, 74, 73]) (
 .cond (.t 83) (sq (.reg [
 O 4 (.mov (.c (.b false)))] []) (
 .ret))
 (.skip)))) (
 .reg [
 O 71 (.mov (.t 6)),
 O 72 (.bin .add (.t 71) (.c (I 1))),
 O 6 (.mov (.t 72))] [72, 71]))
def L97_2 : PC :=
 sq (sq (.reg [
 O 84 (.mov (.t 7)),
 O 85 (.faddr 21 (.t 2)),
 O 86 (.load K0 (.t 85)),
 O 87 (.len false (.t 86)),
 O 88 (.bin .lss (.t 84) (.t 87))] [87, 86, 85, 84]) (
 .cond (.t 88) (.skip)
 (.exit 4))) (
 sq (.block 5 (
 sq (.regD [
 O 91 (.faddr 21 (.t 2)),
 O 92 (.load K0 (.t 91)),
 O 93 (.mov (.t 7)),
 O 94 (.iaddr (K1 7) (.t 92) (.t 93)),
 O 95 (.load (K1 7) (.t 94)),
 O 96 (.faddr 21 (.t 3)),
 O 97 (.load K0 (.t 96)),
 O 98 (.mov (.t 7)),
 O 99 (.iaddr (K1 7) (.t 97) (.t 98)),
 O 100 (.load (K1 7) (.t 99)),
 O 101 (.eqv true [1, 1, 1, 1, 1, 1, 3] (.t 95) (.t 100))] [0, 1, 0, 7, 15, 0, 32, 0, 224, 480, 1023] [100, 99, 98, 97, 96, 95, 94, 93, 92, 91]) (
 .cond (.t 101) (sq (.reg [
 O 4 (.mov (.c (.b false)))] []) (
 .ret))
 (.skip)))) (
 .reg [
 O 89 (.mov (.t 7)),
 O 90 (.bin .add (.t 89) (.c (I 1))),
 O 7 (.mov (.t 90))] [90, 89]))
def F97 : PF := ⟨2, [.t 4],
 sq (.reg [
 O 2 (.box (K1 22) (.t 0)),
 O 3 (.box (K1 22) (.t 1)),
 O 4 (.mov (.c (.b false)))] [4, 1, 0]) (
 sq (sq (.reg [
 O 8 (.load (K1 22) (.t 2)),
 O 9 (.load (K1 22) (.t 3)),
 O 10 (.call 0 139 [(.t 8), (.t 9)]),
 O 11 (.un .not (.t 10)),
 O 12 (.mov (.t 11)),
 OG 13 12 false (.faddr 18 (.t 2)),
 OG 14 12 false (.load K0 (.t 13)),
 OG 15 12 false (.faddr 18 (.t 3)),
 OG 16 12 false (.load K0 (.t 15)),
 OG 17 12 false (.call 0 140 [(.t 14), (.t 16)]),
 OG 18 12 false (.un .not (.t 17)),
 O 19 (.pick (.t 12) (.c (.b true)) (.t 18)),
 O 20 (.mov (.t 19)),
 OG 21 20 false (.faddr 19 (.t 2)),
 OG 22 20 false (.load K0 (.t 21)),
 OG 23 20 false (.len false (.t 22)),
 OG 24 20 false (.faddr 19 (.t 3)),
 OG 25 20 false (.load K0 (.t 24)),
 OG 26 20 false (.len false (.t 25)),
 OG 27 20 false (.bin .neq (.t 23) (.t 26)),
 O 28 (.pick (.t 20) (.c (.b true)) (.t 27)),
 O 29 (.mov (.t 28)),
 OG 30 29 false (.faddr 20 (.t 2)),
 OG 31 29 false (.load K0 (.t 30)),
 OG 32 29 false (.len false (.t 31)),
 OG 33 29 false (.faddr 20 (.t 3)),
 OG 34 29 false (.load K0 (.t 33)),
 OG 35 29 false (.len false (.t 34)),
 OG 36 29 false (.bin .neq (.t 32) (.t 35)),
 O 37 (.pick (.t 29) (.c (.b true)) (.t 36)),
 O 38 (.mov (.t 37)),
 OG 39 38 false (.faddr 21 (.t 2)),
 OG 40 38 false (.load K0 (.t 39)),
 OG 41 38 false (.len false (.t 40)),
 OG 42 38 false (.faddr 21 (.t 3)),
 OG 43 38 false (.load K0 (.t 42)),
 OG 44 38 false (.len false (.t 43)),
 OG 45 38 false (.bin .neq (.t 41) (.t 44)),
 O 46 (.pick (.t 38) (.c (.b true)) (.t 45))] [45, 44, 43, 42, 41, 40, 39, 38, 37, 36, 35, 34, 33, 32, 31, 30, 29, 28, 27, 26, 25, 24, 23, 22, 21, 20, 19, 18, 17, 16, 15, 14, 13, 12, 11, 10, 9, 8]) (
 .cond (.t 46) (sq (.reg [
 O 4 (.mov (.c (.b false)))] []) (
 .ret))
 (.skip))) (
 sq (sq (.reg [
 O 5 (.mov (.c (I 0)))] []) (
 .block 0 (
 .loop [2, 3, 5] L97_0))) (
 sq (sq (.reg [
 O 6 (.mov (.c (I 0)))] []) (
 .block 2 (
 .loop [2, 3, 6] L97_1))) (
 sq (sq (.reg [
 O 7 (.mov (.c (I 0)))] []) (
 .block 4 (
 .loop [2, 3, 7] L97_2))) (
 sq (.reg [
 O 4 (.mov (.c (.b true)))] []) (
 .ret))))))⟩
def L139_0 : PC :=
 sq (sq (.reg [
 O 48 (.mov (.t 5)),
 O 49 (.faddr 0 (.t 2)),
 O 50 (.load K0 (.t 49)),
 O 51 (.len false (.t 50)),
 O 52 (.bin .lss (.t 48) (.t 51))] [51, 50, 49, 48]) (
 .cond (.t 52) (.skip)
 (.exit 0))) (
 sq (.block 1 (
 sq (.regD [
 O 55 (.faddr 0 (.t 2)),
 O 56 (.load K0 (.t 55)),
 O 57 (.mov (.t 5)),
 O 58 (.iaddr (K1 2) (.t 56) (.t 57)),
 O 59 (.load (K1 2) (.t 58)),
 O 60 (.faddr 0 (.t 3)),
 O 61 (.load K0 (.t 60)),
 O 62 (.mov (.t 5)),
 O 63 (.iaddr (K1 2) (.t 61) (.t 62)),
 O 64 (.load (K1 2) (.t 63)),
 O 65 (.eqv true [3, 1] (.t 59) (.t 64))] [0, 1, 0, 7, 15, 0, 32, 0, 224, 480, 1023] [64, 63, 62, 61, 60, 59, 58, 57, 56, 55]) (
 .cond (.t 65) (sq (.reg [
 O 4 (.mov (.c (.b false)))] []) (
 .ret))
 (.skip)))) (
 .reg [
 O 53 (.mov (.t 5)),
 O 54 (.bin .add (.t 53) (.c (I 1))),
 O 5 (.mov (.t 54))] [54, 53]))
def L139_1 : PC :=
 sq (sq (.reg [
 O 66 (.mov (.t 6)),
 O 67 (.faddr 2 (.t 2)),
 O 68 (.load K0 (.t 67)),
 O 69 (.len false (.t 68)),
 O 70 (.bin .lss (.t 66) (.t 69))] [69, 68, 67, 66]) (
 .cond (.t 70) (.skip)
 (.exit 2))) (
 sq (.block 3 (
 sq (.regD [
 O 73 (.faddr 2 (.t 2)),
 O 74 (.load K0 (.t 73)),
 O 75 (.mov (.t 6)),
 O 76 (.iaddr (K1 4) (.t 74) (.t 75)),
 O 77 (.load (K1 4) (.t 76)),
 O 78 (.faddr 2 (.t 3)),
 O 79 (.load K0 (.t 78)),
 O 80 (.mov (.t 6)),
 O 81 (.iaddr (K1 4) (.t 79) (.t 80)),
 O 82 (.load (K1 4) (.t 81)),
 O 83 (.eqv true [1, 1, 1, 3] (.t 77) (.t 82))] [0, 1, 0, 7, 15, 0, 32, 0, 224, 480, 1023] [82, 81, 80, 79, 78, 77, 76, 75, 74, 73]) (
 .cond (.t 83) (sq (.reg [
 O 4 (.mov (.c (.b false)))] []) (
 .ret))
 (.skip)))) (
 .reg [
 O 71 (.mov (.t 6)),
 O 72 (.bin .add (.t 71) (.c (I 1))),
 O 6 (.mov (.t 72))] [72, 71]))
def L139_2 : PC :=
 sq (sq (.reg [
 O 84 (.mov (.t 7)),
 O 85 (.faddr 17 (.t 2)),
 O 86 (.load K0 (.t 85)),
 O 87 (.len false (.t 86)),
 O 88 (.bin .lss (.t 84) (.t 87))] [87, 86, 85, 84]) (
 .cond (.t 88) (.skip)
 (.exit 4))) (
 sq (.block 5 (
 sq (.regD [
 O 91 (.faddr 17 (.t 2)),
 O 92 (.load K0 (.t 91)),
 O 93 (.mov (.t 7)),
 O 94 (.iaddr (K1 19) (.t 92) (.t 93)),
 O 95 (.load (K1 19) (.t 94)),
 O 96 (.faddr 17 (.t 3)),
 O 97 (.load K0 (.t 96)),
 O 98 (.mov (.t 7)),
 O 99 (.iaddr (K1 19) (.t 97) (.t 98)),
 O 100 (.load (K1 19) (.t 99)),
 O 101 (.call 0 224 [(.t 95), (.t 100)]),
 O 102 (.un .not (.t 101))] [0, 1, 0, 7, 15, 0, 32, 0, 224, 480, 1023, 2047] [101, 100, 99, 98, 97, 96, 95, 94, 93, 92, 91]) (
 .cond (.t 102) (sq (.reg [
 O 4 (.mov (.c (.b false)))] []) (
 .ret))
 (.skip)))) (
 .reg [
 O 89 (.mov (.t 7)),
 O 90 (.bin .add (.t 89) (.c (I 1))),
 O 7 (.mov (.t 90))] [90, 89]))
def F139 : PF := ⟨2, [.t 4],
 sq (.reg [
 O 2 (.box (K1 22) (.t 0)),
 O 3 (.box (K1 22) (.t 1)),
 O 4 (.mov (.c (.b false)))] [4, 1, 0]) (
 sq (sq (.reg [
 O 8 (.faddr 0 (.t 2)),
 O 9 (.load K0 (.t 8)),
 O 10 (.len false (.t 9)),
 O 11 (.faddr 0 (.t 3)),
 O 12 (.load K0 (.t 11)),
 O 13 (.len false (.t 12)),
 O 14 (.bin .neq (.t 10) (.t 13)),
 O 15 (.mov (.t 14)),
 OG 16 15 false (.faddr 2 (.t 2)),
 OG 17 15 false (.load K0 (.t 16)),
 OG 18 15 false (.len false (.t 17)),
 OG 19 15 false (.faddr 2 (.t 3)),
 OG 20 15 false (.load K0 (.t 19)),
 OG 21 15 false (.len false (.t 20)),
 OG 22 15 false (.bin .neq (.t 18) (.t 21)),
 O 23 (.pick (.t 15) (.c (.b true)) (.t 22)),
 O 24 (.mov (.t 23)),
 OG 25 24 false (.faddr 17 (.t 2)),
 OG 26 24 false (.load K0 (.t 25)),
 OG 27 24 false (.len false (.t 26)),
 OG 28 24 false (.faddr 17 (.t 3)),
 OG 29 24 false (.load K0 (.t 28)),
 OG 30 24 false (.len false (.t 29)),
 OG 31 24 false (.bin .neq (.t 27) (.t 30)),
 O 32 (.pick (.t 24) (.c (.b true)) (.t 31)),
 O 33 (.mov (.t 32)),
 OG 34 33 false (.faddr 3 (.t 2)),
 OG 35 33 false (.load (K1 14) (.t 34)),
 OG 36 33 false (.faddr 3 (.t 3)),
 OG 37 33 false (.load (K1 14) (.t 36)),
 OG 38 33 false (.eqv true [1, 1, 1, 1, 1, 1, 1, 1, 1, 1, 1, 1, 1, 1] (.t 35) (.t 37)),
 O 39 (.pick (.t 33) (.c (.b true)) (.t 38)),
 O 40 (.mov (.t 39)),
 OG 41 40 false (.faddr 1 (.t 2)),
 OG 42 40 false (.load K0 (.t 41)),
 OG 43 40 false (.faddr 1 (.t 3)),
 OG 44 40 false (.load K0 (.t 43)),
 OG 45 40 false (.call 0 223 [(.t 42), (.t 44)]),
 OG 46 40 false (.un .not (.t 45)),
 O 47 (.pick (.t 40) (.c (.b true)) (.t 46))] [46, 45, 44, 43, 42, 41, 40, 39, 38, 37, 36, 35, 34, 33, 32, 31, 30, 29, 28, 27, 26, 25, 24, 23, 22, 21, 20, 19, 18, 17, 16, 15, 14, 13, 12, 11, 10, 9, 8]) (
 .cond (.t 47) (sq (.reg [
 O 4 (.mov (.c (.b false)))] []) (
 .ret))
 (.skip))) (
 sq (sq (.reg [
 O 5 (.mov (.c (I 0)))] []) (
 .block 0 (
 .loop [2, 3, 5] L139_0))) (
 sq (sq (.reg [
 O 6 (.mov (.c (I 0)))] []) (
 .block 2 (
 .loop [2, 3, 6] L139_1))) (
 sq (sq (.reg [
 O 7 (.mov (.c (I 0)))] []) (
 .block 4 (
 .loop [2, 3, 7] L139_2))) (
 sq (.reg [
 O 4 (.mov (.c (.b true)))] []) (
 .ret))))))⟩
def L140_0 : PC :=
 sq (sq (.reg [
 O 11 (.mov (.t 5)),
 O 12 (.mov (.t 0)),
 O 13 (.len false (.t 12)),
 O 14 (.bin .lss (.t 11) (.t 13))] [13, 12, 11]) (
 .cond (.t 14) (.skip)
 (.exit 0))) (
 sq (.block 1 (
 sq (.regD [
 O 17 (.mov (.t 0)),
 O 18 (.mov (.t 5)),
 O 19 (.iaddr (K1 7) (.t 17) (.t 18)),
 O 20 (.load (K1 7) (.t 19)),
 O 21 (.mov (.t 1)),
 O 22 (.mov (.t 5)),
 O 23 (.iaddr (K1 7) (.t 21) (.t 22)),
 O 24 (.load (K1 7) (.t 23)),
 O 25 (.eqv true [1, 1, 1, 1, 3, 3, 3] (.t 20) (.t 24))] [0, 0, 3, 7, 0, 0, 48, 112, 255] [24, 23, 22, 21, 20, 19, 18, 17]) (
 .cond (.t 25) (sq (.reg [
 O 4 (.mov (.c (.b false)))] []) (
 .ret))
 (.skip)))) (
 .reg [
 O 15 (.mov (.t 5)),
 O 16 (.bin .add (.t 15) (.c (I 1))),
 O 5 (.mov (.t 16))] [16, 15]))
def F140 : PF := ⟨2, [.t 4],
 sq (.reg [
 O 4 (.mov (.c (.b false)))] [4]) (
 sq (sq (.reg [
 O 6 (.mov (.t 0)),
 O 7 (.len false (.t 6)),
 O 8 (.mov (.t 1)),
 O 9 (.len false (.t 8)),
 O 10 (.bin .neq (.t 7) (.t 9))] [9, 8, 7, 6]) (
 .cond (.t 10) (sq (.reg [
 O 4 (.mov (.c (.b false)))] []) (
 .ret))
 (.skip))) (
 sq (sq (.reg [
 O 5 (.mov (.c (I 0)))] []) (
 .block 0 (
 .loop [0, 1, 5] L140_0))) (
 sq (.reg [
 O 4 (.mov (.c (.b true)))] []) (
 .ret))))⟩
def L223_0 : PC :=
 sq (sq (.reg [
 O 11 (.mov (.t 5)),
 O 12 (.mov (.t 0)),
 O 13 (.len false (.t 12)),
 O 14 (.bin .lss (.t 11) (.t 13))] [13, 12, 11]) (
 .cond (.t 14) (.skip)
 (.exit 0))) (
 sq (.block 1 (
 sq (.regD [
 O 17 (.mov (.t 0)),
 O 18 (.mov (.t 5)),
 O 19 (.iaddr (K1 3) (.t 17) (.t 18)),
 O 20 (.faddr 0 (.t 19)),
 O 21 (.load K0 (.t 20)),
 O 22 (.mov (.t 1)),
 O 23 (.mov (.t 5)),
 O 24 (.iaddr (K1 3) (.t 22) (.t 23)),
 O 25 (.faddr 0 (.t 24)),
 O 26 (.load K0 (.t 25)),
 O 27 (.bin .neq (.t 21) (.t 26)),
 O 28 (.mov (.t 27)),
 OG 29 28 false (.mov (.t 0)),
 OG 30 28 false (.mov (.t 5)),
 OG 31 28 false (.iaddr (K1 3) (.t 29) (.t 30)),
 OG 32 28 false (.faddr 1 (.t 31)),
 OG 33 28 false (.load K0 (.t 32)),
 OG 34 28 false (.mov (.t 1)),
 OG 35 28 false (.mov (.t 5)),
 OG 36 28 false (.iaddr (K1 3) (.t 34) (.t 35)),
 OG 37 28 false (.faddr 1 (.t 36)),
 OG 38 28 false (.load K0 (.t 37)),
 OG 39 28 false (.call 0 300 [(.t 33), (.t 38)]),
 OG 40 28 false (.un .not (.t 39)),
 O 41 (.pick (.t 28) (.c (.b true)) (.t 40)),
 O 42 (.mov (.t 41)),
 OG 43 42 false (.mov (.t 0)),
 OG 44 42 false (.mov (.t 5)),
 OG 45 42 false (.iaddr (K1 3) (.t 43) (.t 44)),
 OG 46 42 false (.faddr 2 (.t 45)),
 OG 47 42 false (.load K0 (.t 46)),
 OG 48 42 false (.mov (.t 1)),
 OG 49 42 false (.mov (.t 5)),
 OG 50 42 false (.iaddr (K1 3) (.t 48) (.t 49)),
 OG 51 42 false (.faddr 2 (.t 50)),
 OG 52 42 false (.load K0 (.t 51)),
 OG 53 42 false (.call 0 300 [(.t 47), (.t 52)]),
 OG 54 42 false (.un .not (.t 53)),
 O 55 (.pick (.t 42) (.c (.b true)) (.t 54))] [0, 0, 3, 7, 15, 0, 0, 96, 224, 480, 1023, 2047, 4095, 4095, 16383, 32767, 65535, 4095, 4095, 397311, 921599, 1970175, 4194303, 8388607, 16777215, 33554431, 67108863, 67108863, 268435455, 536870911, 1073741823, 67108863, 67108863, 6509559807, 15099494399, 32279363583, 68719476735, 137438953471, 274877906943] [54, 53, 52, 51, 50, 49, 48, 47, 46, 45, 44, 43, 42, 41, 40, 39, 38, 37, 36, 35, 34, 33, 32, 31, 30, 29, 28, 27, 26, 25, 24, 23, 22, 21, 20, 19, 18, 17]) (
 .cond (.t 55) (sq (.reg [
 O 4 (.mov (.c (.b false)))] []) (
 .ret))
 (.skip)))) (
 .reg [
 O 15 (.mov (.t 5)),
 O 16 (.bin .add (.t 15) (.c (I 1))),
 O 5 (.mov (.t 16))] [16, 15]))
def F223 : PF := ⟨2, [.t 4],
 sq (.reg [
 O 4 (.mov (.c (.b false)))] [4]) (
 sq (sq (.reg [
 O 6 (.mov (.t 0)),
 O 7 (.len false (.t 6)),
 O 8 (.mov (.t 1)),
 O 9 (.len false (.t 8)),
 O 10 (.bin .neq (.t 7) (.t 9))] [9, 8, 7, 6]) (
 .cond (.t 10) (sq (.reg [
 O 4 (.mov (.c (.b false)))] []) (
 .ret))
 (.skip))) (
 sq (sq (.reg [
 O 5 (.mov (.c (I 0)))] []) (
 .block 0 (
 .loop [0, 1, 5] L223_0))) (
 sq (.reg [
 O 4 (.mov (.c (.b true)))] []) (
 .ret))))⟩
def L224_0 : PC :=
 sq (sq (.reg [
 O 84 (.mov (.t 5)),
 O 85 (.faddr 18 (.t 2)),
 O 86 (.load K0 (.t 85)),
 O 87 (.len false (.t 86)),
 O 88 (.bin .lss (.t 84) (.t 87))] [87, 86, 85, 84]) (
 .cond (.t 88) (.skip)
 (.exit 0))) (
 sq (.block 1 (
 sq (.regD [
 O 91 (.faddr 18 (.t 2)),
 O 92 (.load K0 (.t 91)),
 O 93 (.mov (.t 5)),
 O 94 (.iaddr (K1 6) (.t 92) (.t 93)),
 O 95 (.faddr 0 (.t 94)),
 O 96 (.load K0 (.t 95)),
 O 97 (.faddr 18 (.t 3)),
 O 98 (.load K0 (.t 97)),
 O 99 (.mov (.t 5)),
 O 100 (.iaddr (K1 6) (.t 98) (.t 99)),
 O 101 (.faddr 0 (.t 100)),
 O 102 (.load K0 (.t 101)),
 O 103 (.bin .neq (.t 96) (.t 102)),
 O 104 (.mov (.t 103)),
 OG 105 104 false (.faddr 18 (.t 2)),
 OG 106 104 false (.load K0 (.t 105)),
 OG 107 104 false (.mov (.t 5)),
 OG 108 104 false (.iaddr (K1 6) (.t 106) (.t 107)),
 OG 109 104 false (.faddr 1 (.t 108)),
 OG 110 104 false (.load K0 (.t 109)),
 OG 111 104 false (.faddr 18 (.t 3)),
 OG 112 104 false (.load K0 (.t 111)),
 OG 113 104 false (.mov (.t 5)),
 OG 114 104 false (.iaddr (K1 6) (.t 112) (.t 113)),
 OG 115 104 false (.faddr 1 (.t 114)),
 OG 116 104 false (.load K0 (.t 115)),
 OG 117 104 false (.bin .neq (.t 110) (.t 116)),
 O 118 (.pick (.t 104) (.c (.b true)) (.t 117)),
 O 119 (.mov (.t 118)),
 OG 120 119 false (.faddr 18 (.t 2)),
 OG 121 119 false (.load K0 (.t 120)),
 OG 122 119 false (.mov (.t 5)),
 OG 123 119 false (.iaddr (K1 6) (.t 121) (.t 122)),
 OG 124 119 false (.faddr 2 (.t 123)),
 OG 125 119 false (.load (K1 4) (.t 124)),
 OG 126 119 false (.faddr 18 (.t 3)),
 OG 127 119 false (.load K0 (.t 126)),
 OG 128 119 false (.mov (.t 5)),
 OG 129 119 false (.iaddr (K1 6) (.t 127) (.t 128)),
 OG 130 119 false (.faddr 2 (.t 129)),
 OG 131 119 false (.load (K1 4) (.t 130)),
 OG 132 119 false (.call 0 303 [(.t 125), (.t 131)]),
 OG 133 119 false (.un .not (.t 132)),
 O 134 (.pick (.t 119) (.c (.b true)) (.t 133))] [0, 1, 0, 7, 15, 31, 0, 64, 0, 448, 960, 1984, 4095, 8191, 16383, 32767, 16383, 131071, 262143, 524287, 16383, 1064959, 16383, 7356415, 15745023, 32522239, 67108863, 134217727, 268435455, 536870911, 1073741823, 536870911, 4294967295, 8589934591, 17179869183, 536870911, 34896609279, 536870911, 241055039487, 515932946431, 1065688760319, 2199023255551, 4398046511103, 8796093022207] [133, 132, 131, 130, 129, 128, 127, 126, 125, 124, 123, 122, 121, 120, 119, 118, 117, 116, 115, 114, 113, 112, 111, 110, 109, 108, 107, 106, 105, 104, 103, 102, 101, 100, 99, 98, 97, 96, 95, 94, 93, 92, 91]) (
 .cond (.t 134) (sq (.reg [
 O 4 (.mov (.c (.b false)))] []) (
 .ret))
 (.skip)))) (
 .reg [
 O 89 (.mov (.t 5)),
 O 90 (.bin .add (.t 89) (.c (I 1))),
 O 5 (.mov (.t 90))] [90, 89]))
def F224 : PF := ⟨2, [.t 4],
 sq (.reg [
 O 2 (.box (K1 19) (.t 0)),
 O 3 (.box (K1 19) (.t 1)),
 O 4 (.mov (.c (.b false)))] [4, 1, 0]) (
 sq (sq (.reg [
 O 6 (.faddr 0 (.t 2)),
 O 7 (.load K0 (.t 6)),
 O 8 (.faddr 0 (.t 3)),
 O 9 (.load K0 (.t 8)),
 O 10 (.bin .neq (.t 7) (.t 9)),
 O 11 (.mov (.t 10)),
 OG 12 11 false (.faddr 1 (.t 2)),
 OG 13 11 false (.load K0 (.t 12)),
 OG 14 11 false (.faddr 1 (.t 3)),
 OG 15 11 false (.load K0 (.t 14)),
 OG 16 11 false (.bin .neq (.t 13) (.t 15)),
 O 17 (.pick (.t 11) (.c (.b true)) (.t 16)),
 O 18 (.mov (.t 17)),
 OG 19 18 false (.faddr 2 (.t 2)),
 OG 20 18 false (.load K0 (.t 19)),
 OG 21 18 false (.faddr 2 (.t 3)),
 OG 22 18 false (.load K0 (.t 21)),
 OG 23 18 false (.bin .neq (.t 20) (.t 22)),
 O 24 (.pick (.t 18) (.c (.b true)) (.t 23)),
 O 25 (.mov (.t 24)),
 OG 26 25 false (.faddr 3 (.t 2)),
 OG 27 25 false (.load K0 (.t 26)),
 OG 28 25 false (.faddr 3 (.t 3)),
 OG 29 25 false (.load K0 (.t 28)),
 OG 30 25 false (.bin .neq (.t 27) (.t 29)),
 O 31 (.pick (.t 25) (.c (.b true)) (.t 30)),
 O 32 (.mov (.t 31)),
 OG 33 32 false (.faddr 4 (.t 2)),
 OG 34 32 false (.load K0 (.t 33)),
 OG 35 32 false (.faddr 4 (.t 3)),
 OG 36 32 false (.load K0 (.t 35)),
 OG 37 32 false (.bin .neq (.t 34) (.t 36)),
 O 38 (.pick (.t 32) (.c (.b true)) (.t 37)),
 O 39 (.mov (.t 38)),
 OG 40 39 false (.faddr 5 (.t 2)),
 OG 41 39 false (.load K0 (.t 40)),
 OG 42 39 false (.faddr 5 (.t 3)),
 OG 43 39 false (.load K0 (.t 42)),
 OG 44 39 false (.bin .neq (.t 41) (.t 43)),
 O 45 (.pick (.t 39) (.c (.b true)) (.t 44)),
 O 46 (.mov (.t 45)),
 OG 47 46 false (.faddr 6 (.t 2)),
 OG 48 46 false (.load K0 (.t 47)),
 OG 49 46 false (.faddr 6 (.t 3)),
 OG 50 46 false (.load K0 (.t 49)),
 OG 51 46 false (.bin .neq (.t 48) (.t 50)),
 O 52 (.pick (.t 46) (.c (.b true)) (.t 51))] [51, 50, 49, 48, 47, 46, 45, 44, 43, 42, 41, 40, 39, 38, 37, 36, 35, 34, 33, 32, 31, 30, 29, 28, 27, 26, 25, 24, 23, 22, 21, 20, 19, 18, 17, 16, 15, 14, 13, 12, 11, 10, 9, 8, 7, 6]) (
 .cond (.t 52) (sq (.reg [
 O 4 (.mov (.c (.b false)))] []) (
 .ret))
 (.skip))) (
 sq (sq (.reg [
 O 53 (.faddr 7 (.t 2)),
 O 54 (.load (K1 5) (.t 53)),
 O 55 (.faddr 7 (.t 3)),
 O 56 (.load (K1 5) (.t 55)),
 O 57 (.call 0 301 [(.t 54), (.t 56)]),
 O 58 (.un .not (.t 57)),
 O 59 (.mov (.t 58)),
 OG 60 59 false (.faddr 12 (.t 2)),
 OG 61 59 false (.load (K1 5) (.t 60)),
 OG 62 59 false (.faddr 12 (.t 3)),
 OG 63 59 false (.load (K1 5) (.t 62)),
 OG 64 59 false (.call 0 301 [(.t 61), (.t 63)]),
 OG 65 59 false (.un .not (.t 64)),
 O 66 (.pick (.t 59) (.c (.b true)) (.t 65)),
 O 67 (.mov (.t 66)),
 OG 68 67 false (.faddr 17 (.t 2)),
 OG 69 67 false (.load K0 (.t 68)),
 OG 70 67 false (.faddr 17 (.t 3)),
 OG 71 67 false (.load K0 (.t 70)),
 OG 72 67 false (.call 0 302 [(.t 69), (.t 71)]),
 OG 73 67 false (.un .not (.t 72)),
 O 74 (.pick (.t 67) (.c (.b true)) (.t 73)),
 O 75 (.mov (.t 74)),
 OG 76 75 false (.faddr 18 (.t 2)),
 OG 77 75 false (.load K0 (.t 76)),
 OG 78 75 false (.len false (.t 77)),
 OG 79 75 false (.faddr 18 (.t 3)),
 OG 80 75 false (.load K0 (.t 79)),
 OG 81 75 false (.len false (.t 80)),
 OG 82 75 false (.bin .neq (.t 78) (.t 81)),
 O 83 (.pick (.t 75) (.c (.b true)) (.t 82))] [82, 81, 80, 79, 78, 77, 76, 75, 74, 73, 72, 71, 70, 69, 68, 67, 66, 65, 64, 63, 62, 61, 60, 59, 58, 57, 56, 55, 54, 53]) (
 .cond (.t 83) (sq (.reg [
 O 4 (.mov (.c (.b false)))] []) (
 .ret))
 (.skip))) (
 sq (sq (.reg [
 O 5 (.mov (.c (I 0)))] []) (
 .block 0 (
 .loop [2, 3, 5] L224_0))) (
 sq (.reg [
 O 4 (.mov (.c (.b true)))] []) (
 .ret)))))⟩
def L300_0 : PC :=
 sq (sq (.reg [
 O 11 (.mov (.t 5)),
 O 12 (.mov (.t 0)),
 O 13 (.len false (.t 12)),
 O 14 (.bin .lss (.t 11) (.t 13))] [13, 12, 11]) (
 .cond (.t 14) (.skip)
 (.exit 0))) (
 sq (.block 1 (
 sq (.regD [
 O 17 (.mov (.t 0)),
 O 18 (.mov (.t 5)),
 O 19 (.iaddr K0 (.t 17) (.t 18)),
 O 20 (.load K0 (.t 19)),
 O 21 (.mov (.t 1)),
 O 22 (.mov (.t 5)),
 O 23 (.iaddr K0 (.t 21) (.t 22)),
 O 24 (.load K0 (.t 23)),
 O 25 (.bin .neq (.t 20) (.t 24))] [0, 0, 3, 7, 0, 0, 48, 112, 255] [24, 23, 22, 21, 20, 19, 18, 17]) (
 .cond (.t 25) (sq (.reg [
 O 4 (.mov (.c (.b false)))] []) (
 .ret))
 (.skip)))) (
 .reg [
 O 15 (.mov (.t 5)),
 O 16 (.bin .add (.t 15) (.c (I 1))),
 O 5 (.mov (.t 16))] [16, 15]))
def F300 : PF := ⟨2, [.t 4],
 sq (.reg [
 O 4 (.mov (.c (.b false)))] [4]) (
 sq (sq (.reg [
 O 6 (.mov (.t 0)),
 O 7 (.len false (.t 6)),
 O 8 (.mov (.t 1)),
 O 9 (.len false (.t 8)),
 O 10 (.bin .neq (.t 7) (.t 9))] [9, 8, 7, 6]) (
 .cond (.t 10) (sq (.reg [
 O 4 (.mov (.c (.b false)))] []) (
 .ret))
 (.skip))) (
 sq (sq (.reg [
 O 5 (.mov (.c (I 0)))] []) (
 .block 0 (
 .loop [0, 1, 5] L300_0))) (
 sq (.reg [
 O 4 (.mov (.c (.b true)))] []) (
 .ret))))⟩
def L301_0 : PC :=
 sq (sq (.reg [
 O 41 (.mov (.t 5)),
 O 42 (.faddr 0 (.t 2)),
 O 43 (.load K0 (.t 42)),
 O 44 (.len false (.t 43)),
 O 45 (.bin .lss (.t 41) (.t 44))] [44, 43, 42, 41]) (
 .cond (.t 45) (.skip)
 (.exit 0))) (
 sq (.block 1 (
 sq (.regD [
 O 48 (.faddr 0 (.t 2)),
 O 49 (.load K0 (.t 48)),
 O 50 (.mov (.t 5)),
 O 51 (.iaddr (K1 2) (.t 49) (.t 50)),
 O 52 (.load (K1 2) (.t 51)),
 O 53 (.faddr 0 (.t 3)),
 O 54 (.load K0 (.t 53)),
 O 55 (.mov (.t 5)),
 O 56 (.iaddr (K1 2) (.t 54) (.t 55)),
 O 57 (.load (K1 2) (.t 56)),
 O 58 (.eqv true [1, 1] (.t 52) (.t 57))] [0, 1, 0, 7, 15, 0, 32, 0, 224, 480, 1023] [57, 56, 55, 54, 53, 52, 51, 50, 49, 48]) (
 .cond (.t 58) (sq (.reg [
 O 4 (.mov (.c (.b false)))] []) (
 .ret))
 (.skip)))) (
 .reg [
 O 46 (.mov (.t 5)),
 O 47 (.bin .add (.t 46) (.c (I 1))),
 O 5 (.mov (.t 47))] [47, 46]))
def F301 : PF := ⟨2, [.t 4],
 sq (.reg [
 O 2 (.box (K1 5) (.t 0)),
 O 3 (.box (K1 5) (.t 1)),
 O 4 (.mov (.c (.b false)))] [4, 1, 0]) (
 sq (sq (.reg [
 O 6 (.faddr 0 (.t 2)),
 O 7 (.load K0 (.t 6)),
 O 8 (.len false (.t 7)),
 O 9 (.faddr 0 (.t 3)),
 O 10 (.load K0 (.t 9)),
 O 11 (.len false (.t 10)),
 O 12 (.bin .neq (.t 8) (.t 11)),
 O 13 (.mov (.t 12)),
 OG 14 13 false (.faddr 1 (.t 2)),
 OG 15 13 false (.load K0 (.t 14)),
 OG 16 13 false (.faddr 1 (.t 3)),
 OG 17 13 false (.load K0 (.t 16)),
 OG 18 13 false (.eqb true (.t 15) (.t 17)),
 O 19 (.pick (.t 13) (.c (.b true)) (.t 18)),
 O 20 (.mov (.t 19)),
 OG 21 20 false (.faddr 2 (.t 2)),
 OG 22 20 false (.load K0 (.t 21)),
 OG 23 20 false (.faddr 2 (.t 3)),
 OG 24 20 false (.load K0 (.t 23)),
 OG 25 20 false (.bin .neq (.t 22) (.t 24)),
 O 26 (.pick (.t 20) (.c (.b true)) (.t 25)),
 O 27 (.mov (.t 26)),
 OG 28 27 false (.faddr 3 (.t 2)),
 OG 29 27 false (.load K0 (.t 28)),
 OG 30 27 false (.faddr 3 (.t 3)),
 OG 31 27 false (.load K0 (.t 30)),
 OG 32 27 false (.bin .neq (.t 29) (.t 31)),
 O 33 (.pick (.t 27) (.c (.b true)) (.t 32)),
 O 34 (.mov (.t 33)),
 OG 35 34 false (.faddr 4 (.t 2)),
 OG 36 34 false (.load K0 (.t 35)),
 OG 37 34 false (.faddr 4 (.t 3)),
 OG 38 34 false (.load K0 (.t 37)),
 OG 39 34 false (.eqb true (.t 36) (.t 38)),
 O 40 (.pick (.t 34) (.c (.b true)) (.t 39))] [39, 38, 37, 36, 35, 34, 33, 32, 31, 30, 29, 28, 27, 26, 25, 24, 23, 22, 21, 20, 19, 18, 17, 16, 15, 14, 13, 12, 11, 10, 9, 8, 7, 6]) (
 .cond (.t 40) (sq (.reg [
 O 4 (.mov (.c (.b false)))] []) (
 .ret))
 (.skip))) (
 sq (sq (.reg [
 O 5 (.mov (.c (I 0)))] []) (
 .block 0 (
 .loop [2, 3, 5] L301_0))) (
 sq (.reg [
 O 4 (.mov (.c (.b true)))] []) (
 .ret))))⟩
def L302_0 : PC :=
 sq (sq (.reg [
 O 11 (.mov (.t 5)),
 O 12 (.mov (.t 0)),
 O 13 (.len false (.t 12)),
 O 14 (.bin .lss (.t 11) (.t 13))] [13, 12, 11]) (
 .cond (.t 14) (.skip)
 (.exit 0))) (
 sq (.block 1 (
 sq (.regD [
 O 17 (.mov (.t 0)),
 O 18 (.mov (.t 5)),
 O 19 (.iaddr (K1 10) (.t 17) (.t 18)),
 O 20 (.faddr 0 (.t 19)),
 O 21 (.load K0 (.t 20)),
 O 22 (.mov (.t 1)),
 O 23 (.mov (.t 5)),
 O 24 (.iaddr (K1 10) (.t 22) (.t 23)),
 O 25 (.faddr 0 (.t 24)),
 O 26 (.load K0 (.t 25)),
 O 27 (.bin .neq (.t 21) (.t 26)),
 O 28 (.mov (.t 27)),
 OG 29 28 false (.mov (.t 0)),
 OG 30 28 false (.mov (.t 5)),
 OG 31 28 false (.iaddr (K1 10) (.t 29) (.t 30)),
 OG 32 28 false (.faddr 1 (.t 31)),
 OG 33 28 false (.load K0 (.t 32)),
 OG 34 28 false (.mov (.t 1)),
 OG 35 28 false (.mov (.t 5)),
 OG 36 28 false (.iaddr (K1 10) (.t 34) (.t 35)),
 OG 37 28 false (.faddr 1 (.t 36)),
 OG 38 28 false (.load K0 (.t 37)),
 OG 39 28 false (.bin .neq (.t 33) (.t 38)),
 O 40 (.pick (.t 28) (.c (.b true)) (.t 39)),
 O 41 (.mov (.t 40)),
 OG 42 41 false (.mov (.t 0)),
 OG 43 41 false (.mov (.t 5)),
 OG 44 41 false (.iaddr (K1 10) (.t 42) (.t 43)),
 OG 45 41 false (.faddr 2 (.t 44)),
 OG 46 41 false (.load (K1 4) (.t 45)),
 OG 47 41 false (.mov (.t 1)),
 OG 48 41 false (.mov (.t 5)),
 OG 49 41 false (.iaddr (K1 10) (.t 47) (.t 48)),
 OG 50 41 false (.faddr 2 (.t 49)),
 OG 51 41 false (.load (K1 4) (.t 50)),
 OG 52 41 false (.call 0 303 [(.t 46), (.t 51)]),
 OG 53 41 false (.un .not (.t 52)),
 O 54 (.pick (.t 41) (.c (.b true)) (.t 53)),
 O 55 (.mov (.t 54)),
 OG 56 55 false (.mov (.t 0)),
 OG 57 55 false (.mov (.t 5)),
 OG 58 55 false (.iaddr (K1 10) (.t 56) (.t 57)),
 OG 59 55 false (.faddr 6 (.t 58)),
 OG 60 55 false (.load (K1 4) (.t 59)),
 OG 61 55 false (.mov (.t 1)),
 OG 62 55 false (.mov (.t 5)),
 OG 63 55 false (.iaddr (K1 10) (.t 61) (.t 62)),
 OG 64 55 false (.faddr 6 (.t 63)),
 OG 65 55 false (.load (K1 4) (.t 64)),
 OG 66 55 false (.call 0 303 [(.t 60), (.t 65)]),
 OG 67 55 false (.un .not (.t 66)),
 O 68 (.pick (.t 55) (.c (.b true)) (.t 67))] [0, 0, 3, 7, 15, 0, 0, 96, 224, 480, 1023, 2047, 4095, 4095, 16383, 32767, 65535, 4095, 4095, 397311, 921599, 1970175, 4194303, 8388607, 16777215, 33554431, 33554431, 134217727, 268435455, 536870911, 33554431, 33554431, 3254779903, 7549747199, 16139681791, 34359738367, 68719476735, 137438953471, 274877906943, 549755813887, 549755813887, 2199023255551, 4398046511103, 8796093022207, 549755813887, 549755813887, 53326313947135, 123695058124799, 264432546480127, 562949953421311, 1125899906842623, 2251799813685247] [67, 66, 65, 64, 63, 62, 61, 60, 59, 58, 57, 56, 55, 54, 53, 52, 51, 50, 49, 48, 47, 46, 45, 44, 43, 42, 41, 40, 39, 38, 37, 36, 35, 34, 33, 32, 31, 30, 29, 28, 27, 26, 25, 24, 23, 22, 21, 20, 19, 18, 17]) (
 .cond (.t 68) (sq (.reg [
 O 4 (.mov (.c (.b false)))] []) (
 .ret))
 (.skip)))) (
 .reg [
 O 15 (.mov (.t 5)),
 O 16 (.bin .add (.t 15) (.c (I 1))),
 O 5 (.mov (.t 16))] [16, 15]))
def F302 : PF := ⟨2, [.t 4],
 sq (.reg [
 O 4 (.mov (.c (.b false)))] [4]) (
 sq (sq (.reg [
 O 6 (.mov (.t 0)),
 O 7 (.len false (.t 6)),
 O 8 (.mov (.t 1)),
 O 9 (.len false (.t 8)),
 O 10 (.bin .neq (.t 7) (.t 9))] [9, 8, 7, 6]) (
 .cond (.t 10) (sq (.reg [
 O 4 (.mov (.c (.b false)))] []) (
 .ret))
 (.skip))) (
 sq (sq (.reg [
 O 5 (.mov (.c (I 0)))] []) (
 .block 0 (
 .loop [0, 1, 5] L302_0))) (
 sq (.reg [
 O 4 (.mov (.c (.b true)))] []) (
 .ret))))⟩
def L303_0 : PC :=
 sq (sq (.reg [
 O 34 (.mov (.t 5)),
 O 35 (.faddr 3 (.t 2)),
 O 36 (.load K0 (.t 35)),
 O 37 (.len false (.t 36)),
 O 38 (.bin .lss (.t 34) (.t 37))] [37, 36, 35, 34]) (
 .cond (.t 38) (.skip)
 (.exit 0))) (
 sq (.block 1 (
 sq (.regD [
 O 41 (.faddr 3 (.t 2)),
 O 42 (.load K0 (.t 41)),
 O 43 (.mov (.t 5)),
 O 44 (.iaddr (K1 4) (.t 42) (.t 43)),
 O 45 (.load (K1 4) (.t 44)),
 O 46 (.faddr 3 (.t 3)),
 O 47 (.load K0 (.t 46)),
 O 48 (.mov (.t 5)),
 O 49 (.iaddr (K1 4) (.t 47) (.t 48)),
 O 50 (.load (K1 4) (.t 49)),
 O 51 (.call 0 303 [(.t 45), (.t 50)]),
 O 52 (.un .not (.t 51))] [0, 1, 0, 7, 15, 0, 32, 0, 224, 480, 1023, 2047] [51, 50, 49, 48, 47, 46, 45, 44, 43, 42, 41]) (
 .cond (.t 52) (sq (.reg [
 O 4 (.mov (.c (.b false)))] []) (
 .ret))
 (.skip)))) (
 .reg [
 O 39 (.mov (.t 5)),
 O 40 (.bin .add (.t 39) (.c (I 1))),
 O 5 (.mov (.t 40))] [40, 39]))
def F303 : PF := ⟨2, [.t 4],
 sq (.reg [
 O 2 (.box (K1 4) (.t 0)),
 O 3 (.box (K1 4) (.t 1)),
 O 4 (.mov (.c (.b false)))] [4, 1, 0]) (
 sq (sq (.reg [
 O 6 (.faddr 0 (.t 2)),
 O 7 (.load K0 (.t 6)),
 O 8 (.faddr 0 (.t 3)),
 O 9 (.load K0 (.t 8)),
 O 10 (.bin .neq (.t 7) (.t 9)),
 O 11 (.mov (.t 10)),
 OG 12 11 false (.faddr 1 (.t 2)),
 OG 13 11 false (.load K0 (.t 12)),
 OG 14 11 false (.faddr 1 (.t 3)),
 OG 15 11 false (.load K0 (.t 14)),
 OG 16 11 false (.bin .neq (.t 13) (.t 15)),
 O 17 (.pick (.t 11) (.c (.b true)) (.t 16)),
 O 18 (.mov (.t 17)),
 OG 19 18 false (.faddr 2 (.t 2)),
 OG 20 18 false (.load K0 (.t 19)),
 OG 21 18 false (.faddr 2 (.t 3)),
 OG 22 18 false (.load K0 (.t 21)),
 OG 23 18 false (.bin .neq (.t 20) (.t 22)),
 O 24 (.pick (.t 18) (.c (.b true)) (.t 23)),
 O 25 (.mov (.t 24)),
 OG 26 25 false (.faddr 3 (.t 2)),
 OG 27 25 false (.load K0 (.t 26)),
 OG 28 25 false (.len false (.t 27)),
 OG 29 25 false (.faddr 3 (.t 3)),
 OG 30 25 false (.load K0 (.t 29)),
 OG 31 25 false (.len false (.t 30)),
 OG 32 25 false (.bin .neq (.t 28) (.t 31)),
 O 33 (.pick (.t 25) (.c (.b true)) (.t 32))] [32, 31, 30, 29, 28, 27, 26, 25, 24, 23, 22, 21, 20, 19, 18, 17, 16, 15, 14, 13, 12, 11, 10, 9, 8, 7, 6]) (
 .cond (.t 33) (sq (.reg [
 O 4 (.mov (.c (.b false)))] []) (
 .ret))
 (.skip))) (
 sq (sq (.reg [
 O 5 (.mov (.c (I 0)))] []) (
 .block 0 (
 .loop [2, 3, 5] L303_0))) (
 sq (.reg [
 O 4 (.mov (.c (.b true)))] []) (
 .ret))))⟩
def F306 : PF := ⟨1, [.c 2 (K1 10)],
 sq (.reg [
 O 1 (.box (K1 10) (.t 0)),
 O 2 (.alloc (K1 10) (.a [(.s []), (I 0), (I 0), (I 0), (.s []), (.l (K1 4) [] true), (I 0), (I 0), (.s []), (.l (K1 4) [] true)]))] [0]) (
 sq (.regD [
 O 3 (.faddr 2 (.t 1)),
 O 4 (.load (K1 4) (.t 3)),
 O 5 (.call 0 307 [(.t 4)]),
 O 6 (.faddr 6 (.t 1)),
 O 7 (.load (K1 4) (.t 6)),
 O 8 (.call 0 307 [(.t 7)]),
 O 9 (.faddr 2 (.t 1)),
 E (.store (K1 4) (.t 9) (.t 5)),
 O 10 (.faddr 6 (.t 1)),
 E (.store (K1 4) (.t 10) (.t 8))] [0, 1, 3, 0, 8, 31, 31, 127, 255, 511] [10, 9, 8, 7, 6, 5, 4, 3]) (
 sq (.reg [
 O 11 (.load (K1 10) (.t 1)),
 E (.store (K1 10) (.t 2) (.t 11))] [1, 11]) (
 .ret)))⟩
def F307 : PF := ⟨1, [.c 2 (K1 4)],
 sq (.reg [
 O 1 (.box (K1 4) (.t 0)),
 O 2 (.alloc (K1 4) (.a [(I 0), (I 0), (.s []), (.l (K1 4) [] true)]))] [0]) (
 sq (.reg [
 O 3 (.faddr 3 (.t 1)),
 O 4 (.load K0 (.t 3)),
 O 5 (.call 2 365 [(.t 4), (.f 307)]),
 O 6 (.faddr 3 (.t 1)),
 E (.store K0 (.t 6) (.t 5))] [6, 5, 4, 3]) (
 sq (.reg [
 O 7 (.load (K1 4) (.t 1)),
 E (.store (K1 4) (.t 2) (.t 7))] [1, 7]) (
 .ret)))⟩
def F309 : PF := ⟨1, [.c 2 (K1 6)],
 sq (.reg [
 O 1 (.box (K1 6) (.t 0)),
 O 2 (.alloc (K1 6) (.a [(.s []), (I 0), (I 0), (I 0), (.s []), (.l (K1 4) [] true)]))] [0]) (
 sq (.reg [
 O 3 (.faddr 2 (.t 1)),
 O 4 (.load (K1 4) (.t 3)),
 O 5 (.call 0 307 [(.t 4)]),
 O 6 (.faddr 2 (.t 1)),
 E (.store (K1 4) (.t 6) (.t 5))] [6, 5, 4, 3]) (
 sq (.reg [
 O 7 (.load (K1 6) (.t 1)),
 E (.store (K1 6) (.t 2) (.t 7))] [1, 7]) (
 .ret)))⟩
def F365 : PF := eachF (K1 4) 56 (.a [(I 0), (I 0), (.s []), (.l (K1 4) [] true)])
def F1119 : PF := ⟨2, [.t 4],
 sq (.reg [
 O 2 (.box (K1 42) (.t 0)),
 O 3 (.box (K1 2) (.t 1)),
 O 4 (.mov (.c (.b false)))] [4, 1, 0]) (
 sq (sq (.reg [
 O 5 (.load (K1 42) (.t 2)),
 O 6 (.call 0 77 [(.t 5)]),
 O 7 (.un .not (.t 6))] [6, 5]) (
 .cond (.t 7) (sq (.reg [
 O 8 (.call 0 1010 []),
 O 4 (.mov (.t 8))] [8]) (
 .ret))
 (.skip))) (
 sq (.regD [
 O 9 (.load (K1 42) (.t 2)),
 O 10 (.load (K1 2) (.t 3)),
 O 11 (.call 0 528 [(.t 9), (.t 10)]),
 O 12 (.load (K1 42) (.t 2)),
 O 13 (.load (K1 2) (.t 3)),
 O 14 (.call 0 1120 [(.t 12), (.t 13)]),
 O 15 (.call 0 97 [(.t 11), (.t 14)]),
 O 16 (.mov (.t 15)),
 OG 17 16 true (.call 0 1010 []),
 O 18 (.pick (.t 16) (.t 17) (.c (.b false))),
 O 4 (.mov (.t 18))] [0, 0, 3, 0, 0, 31, 63, 127, 255, 511, 1023] [18, 17, 16, 15, 14, 13, 12, 11, 3, 10, 2, 9]) (
 .ret)))⟩
def L1120_0 : PC :=
 sq (sq (.regD [
 O 12 (.mov (.t 5)),
 O 13 (.bin .gtr (.t 12) (.c (I 0))),
 O 14 (.mov (.t 13)),
 OG 15 14 true (.load (K1 42) (.t 2)),
 OG 16 14 true (.load (K1 2) (.t 3)),
 OG 17 14 true (.faddr 3 (.t 2)),
 OG 18 14 true (.faddr 19 (.t 17)),
 OG 19 14 true (.load K0 (.t 18)),
 OG 20 14 true (.mov (.t 5)),
 OG 21 14 true (.bin .sub (.t 20) (.c (I 1))),
 OG 22 14 true (.iaddr (K1 10) (.t 19) (.t 21)),
 OG 23 14 true (.load (K1 10) (.t 22)),
 OG 24 14 true (.call 0 1121 [(.t 15), (.t 16), (.t 23)]),
 O 25 (.pick (.t 14) (.t 24) (.c (.b false)))] [0, 1, 3, 7, 7, 7, 39, 103, 7, 263, 999, 2023, 4095, 8191] [24, 23, 22, 21, 20, 19, 18, 17, 16, 15, 14, 13, 12]) (
 .cond (.t 25) (.skip)
 (.exit 0))) (
 .block 1 (
 .reg [
 O 26 (.mov (.t 5)),
 O 27 (.bin .sub (.t 26) (.c (I 1))),
 O 5 (.mov (.t 27))] [27, 26]))
def L1120_1 : PC :=
 sq (sq (.reg [
 O 31 (.mov (.t 7)),
 O 32 (.mov (.t 5)),
 O 33 (.bin .lss (.t 31) (.t 32))] [32, 31]) (
 .cond (.t 33) (.skip)
 (.exit 2))) (
 sq (.block 3 (
 .regD [
 O 36 (.faddr 19 (.t 6)),
 O 37 (.load K0 (.t 36)),
 O 38 (.faddr 3 (.t 2)),
 O 39 (.faddr 19 (.t 38)),
 O 40 (.load K0 (.t 39)),
 O 41 (.mov (.t 7)),
 O 42 (.iaddr (K1 10) (.t 40) (.t 41)),
 O 43 (.load (K1 10) (.t 42)),
 O 44 (.bsl (K1 10) (.a [(I 0), (I 0), (I 0), (I 0), (I 0), (I 0), (.s []), (.s []), (.l (K1 3) [] true), (.i .u64 0)]) 1 [(0, (.t 43))]),
 O 45 (.app (K1 10) 112 (.t 37) (.t 44)),
 O 46 (.faddr 19 (.t 6)),
 E (.store K0 (.t 46) (.t 45))] [0, 1, 0, 4, 12, 0, 60, 124, 252, 511, 1023, 2047] [46, 45, 44, 43, 42, 41, 40, 39, 38, 37, 36])) (
 .reg [
 O 34 (.mov (.t 7)),
 O 35 (.bin .add (.t 34) (.c (I 1))),
 O 7 (.mov (.t 35))] [35, 34]))
def F1120 : PF := ⟨2, [.c 4 (K1 22)],
 sq (.reg [
 O 2 (.box (K1 42) (.t 0)),
 O 3 (.box (K1 2) (.t 1)),
 O 4 (.alloc (K1 22) (.a [(.l (K1 2) [] true), (.l (K1 3) [] true), (.l (K1 4) [] true), (I 0), (I 0), (I 0), (I 0), (I 0), (I 0), (I 0), (I 0), (I 0), (I 0), (I 0), (I 0), (I 0), (I 0), (.l (K1 19) [] true), (.l (K1 7) [] true), (.l (K1 10) [] true), (.l (K1 6) [] true), (.l (K1 7) [] true)]))] [1, 0]) (
 sq (.reg [
 O 8 (.faddr 3 (.t 2)),
 O 9 (.faddr 19 (.t 8)),
 O 10 (.load K0 (.t 9)),
 O 11 (.len false (.t 10)),
 O 5 (.mov (.t 11))] [11, 10, 9, 8]) (
 sq (.block 0 (
 .loop [2, 3, 4, 5] L1120_0)) (
 sq (.reg [
 O 28 (.faddr 3 (.t 2)),
 O 29 (.load (K1 22) (.t 28)),
 O 6 (.alloc (K1 22) (.a [(.l (K1 2) [] true), (.l (K1 3) [] true), (.l (K1 4) [] true), (I 0), (I 0), (I 0), (I 0), (I 0), (I 0), (I 0), (I 0), (I 0), (I 0), (I 0), (I 0), (I 0), (I 0), (.l (K1 19) [] true), (.l (K1 7) [] true), (.l (K1 10) [] true), (.l (K1 6) [] true), (.l (K1 7) [] true)])),
 E (.store (K1 22) (.t 6) (.t 29))] [29, 28]) (
 sq (.reg [
 O 30 (.faddr 19 (.t 6)),
 E (.store K0 (.t 30) (.c (.l (K1 10) [] true)))] [30]) (
 sq (sq (.reg [
 O 7 (.mov (.c (I 0)))] []) (
 .block 2 (
 .loop [2, 4, 5, 6, 7] L1120_1))) (
 sq (.reg [
 O 47 (.load (K1 22) (.t 6)),
 E (.store (K1 22) (.t 4) (.t 47))] [6, 47]) (
 .ret)))))))⟩
def F1121 : PF := ⟨3, [.t 6],
 sq (.reg [
 O 3 (.box (K1 42) (.t 0)),
 O 4 (.box (K1 2) (.t 1)),
 O 5 (.box (K1 10) (.t 2)),
 O 6 (.mov (.c (.b false)))] [6, 2, 1, 0]) (
 sq (sq (.reg [
 O 8 (.faddr 0 (.t 4)),
 O 9 (.load K0 (.t 8)),
 O 10 (.bin .eql (.t 9) (.c (I 9)))] [9, 8]) (
 .cond (.t 10) (sq (.reg [
 O 11 (.faddr 1 (.t 5)),
 O 12 (.load K0 (.t 11)),
 O 13 (.faddr 0 (.t 3)),
 O 14 (.load K0 (.t 13)),
 O 15 (.bin .gtr (.t 12) (.t 14)),
 O 6 (.mov (.t 15))] [15, 14, 3, 13, 12, 5, 11]) (
 .ret))
 (.skip))) (
 sq (.reg [
 O 16 (.faddr 0 (.t 3)),
 O 17 (.load K0 (.t 16)),
 O 18 (.load (K1 2) (.t 4)),
 O 19 (.call 0 1011 [(.t 17), (.t 18)]),
 O 7 (.mov (.t 19))] [19, 4, 18, 17, 3, 16]) (
 sq (.reg [
 O 20 (.faddr 6 (.t 5)),
 O 21 (.load K0 (.t 20)),
 O 22 (.len true (.t 21)),
 O 23 (.mov (.t 7)),
 O 24 (.len true (.t 23)),
 O 25 (.bin .geq (.t 22) (.t 24)),
 O 26 (.mov (.t 25)),
 OG 27 26 true (.faddr 6 (.t 5)),
 OG 28 26 true (.load K0 (.t 27)),
 OG 29 26 true (.mov (.t 7)),
 OG 30 26 true (.len true (.t 29)),
 OG 31 26 true (.slS (.t 28) none (some (.t 30))),
 OG 32 26 true (.mov (.t 7)),
 OG 33 26 true (.bin .eql (.t 31) (.t 32)),
 O 34 (.pick (.t 26) (.t 33) (.c (.b false))),
 O 6 (.mov (.t 34))] [34, 33, 32, 31, 30, 29, 28, 27, 26, 25, 24, 7, 23, 22, 21, 5, 20]) (
 .ret))))⟩
end Go.Sim
end
section
open Go.RowKit Go.WideShapes Go.Deep
namespace Go.Sim
inductive Ty where
 | b
 | i (k : IntKind)
 | s
 | e
 | l (k : K) (b : Nat) (ts : List Ty)
def cap47 : Nat := 140737488355328
mutual
inductive XL : DV → Prop
 | mk (es : List DV) : es.length ≤ maxLen → (∀ e ∈ es, XE e) → es.length * 56 ≤ cap47 → XL (.l (some 4) es false)
inductive XE : DV → Prop
 | mk (o n : Int) (s : List UInt8) (a : DV) : (Lit.int .i64 o).wf = true → (Lit.int .i64 n).wf = true → s.length ≤ maxLen → XL a → XE (.a [.i .i64 o, .i .i64 n, .s s, a])
end
mutual
def Has : Ty → DV → Prop
 | .e, x => XL x
 | .b, x => ∃ c, x = .b c
 | .i k, x => ∃ n, x = .i k n ∧ (Lit.int k n).wf = true
 | .s, x => ∃ l, x = .s l ∧ l.length ≤ maxLen
 | .l k b ts, x => ∃ es, x = .l k es false ∧ es.length ≤ maxLen ∧ es.length * b ≤ cap47 ∧ ∀ e ∈ es, ∃ cs, mkD k cs = some e ∧ HasL ts cs
def HasL : List Ty → List DV → Prop
 | [], [] => True
 | t :: ts, x :: xs => Has t x ∧ HasL ts xs
 | _, _ => False
end
def tyFs (P : Program) (rec : TypeId → Option (List Ty)) : List Field → Nat → Nat → Option (List Ty)
 | [], off, n => if off = n then some [] else none
 | f :: fs, off, n => if f.offset ≠ off then none else (rec f.type).bind fun a => if a.length ≠ P.cellsOf f.type then none else (tyFs P rec fs (off + a.length) n).bind fun b => some (a ++ b)
def tyB (P : Program) (u : TypeId) : Option (List Ty) := match P.underlying u with
 | some .bool => some [.b]
 | some (.int k) => some [.i k]
 | some .string => some [.s]
 | _ => none
def isX4 : Option (List Ty) → Bool
 | some [.i .i64, .i .i64, .s, .e] => true
 | _ => false
def exprB (P : Program) (t : TypeId) : Bool := match P.underlying t with
 | some (.slice e) => decide (kq P e = some (some 4)) && (decide (P.cellsOf e = 4 ∧ P.bytesOf e = 56) && match P.underlying e with
  | some (.struct fs) => isX4 (tyFs P (fun u => if u = t then some [.e] else tyB P u) fs.toList 0 4)
  | _ => false)
 | _ => false
def tyOf (P : Program) : Nat → TypeId → Option (List Ty)
 | 0, _ => none
 | n + 1, t => match P.underlying t with
  | some .bool => some [.b]
  | some (.int k) => some [.i k]
  | some .string => some [.s]
  | some (.slice e) => if exprB P t = true then some [.e] else (kq P e).bind fun k => (tyOf P n e).bind fun ts => if ts.length = P.cellsOf e ∧ k.size = ts.length ∧ 0 < ts.length then some [.l k (P.bytesOf e) ts] else none
  | some (.struct fs) => tyFs P (tyOf P n) fs.toList 0 (P.cellsOf t)
  | some (.array m e) => (tyOf P n e).bind fun ts => if ts.length = P.cellsOf e ∧ P.cellsOf t = m * P.cellsOf e then some (List.replicate m ts).flatten else none
  | _ => none
def Live (w : World) : Stab := fun b o => ∃ v, w.cell? ⟨b, o, none⟩ = some v
theorem Live.swf (w : World) : Swf w (Live w) := fun _ _ h => h
def R1 (w : World) (t : Ty) (v : Value) : Prop := flat v ∧ ∃ x, Has t x ∧ RelD w (Live w) x v
def CR (w : World) : List Ty → List Value → Prop
 | [], [] => True
 | t :: ts, v :: vs => R1 w t v ∧ CR w ts vs
 | _, _ => False
theorem CR.append {w : World} : ∀ {ts : List Ty} {vs : List Value} {us : List Ty} {ws : List Value}, CR w ts vs → CR w us ws → CR w (ts ++ us) (vs ++ ws)
 | [], [], _, _, _, k => k
 | _ :: _, _ :: _, _, _, h, k => ⟨h.1, h.2.append k⟩
 | [], _ :: _, _, _, h, _ => h.elim
 | _ :: _, [], _, _, h, _ => h.elim
theorem CR.len {w : World} : ∀ {ts : List Ty} {vs : List Value}, CR w ts vs → ts.length = vs.length
 | [], [], _ => rfl
 | _ :: _, _ :: _, h => by simp [h.2.len]
 | [], _ :: _, h => h.elim
 | _ :: _, [], h => h.elim
theorem CR.flat {w : World} : ∀ {ts : List Ty} {vs : List Value}, CR w ts vs → ∀ v ∈ vs, flat v
 | [], [], _, v, hv => by cases hv
 | _ :: _, _ :: _, h, v, hv => by
  rcases List.mem_cons.1 hv with rfl | hv
  ·exact h.1.1
  ·exact h.2.flat v hv
 | [], _ :: _, h, _, _ => h.elim
 | _ :: _, [], h, _, _ => h.elim
theorem CR.data {w : World} : ∀ {ts : List Ty} {vs : List Value}, CR w ts vs → ∃ xs, HasL ts xs ∧ xs.length = vs.length ∧ ∀ j (h : j < xs.length) (h' : j < vs.length), RelD w (Live w) xs[j] vs[j]
 | [], [], _ => ⟨[], by simp [HasL], rfl, fun j h => by cases h⟩
 | _ :: _, _ :: _, h => by
  obtain ⟨xs, h1, h2, h3⟩ := h.2.data
  obtain ⟨-, x, h4, h5⟩ := h.1
  refine ⟨x :: xs, by rw [HasL]; exact ⟨h4, h1⟩, by simp [h2], ?_⟩
  intro j hj hj'
  cases j with
  | zero => exact h5
  | succ j => exact h3 j _ _
 | [], _ :: _, h => h.elim
 | _ :: _, [], h => h.elim
theorem CR.val {w : World} {ts : List Ty} {vs : List Value} (h : CR w ts vs) {k : K} (hk : k.size = ts.length) (c : Nat → Value) (hc : ∀ m (h : m < vs.length), c m = vs[m]) :
  ∃ xs e, mkD k xs = some e ∧ HasL ts xs ∧ RelD w (Live w) e (mkV k c) := by
 obtain ⟨xs, h1, h2, h3⟩ := h.data
 have hl := h.len
 cases k with
 | none =>
  simp only [K.size] at hk
  match xs, vs, h2 with
  | [x], [v], _ =>
   refine ⟨[x], x, rfl, h1, ?_⟩
   have := h3 0 (by simp) (by simp)
   simp only [mkV]
   rw [hc 0 (by simp)]
   exact this
  | [], [], _ => simp at hl; subst hl; simp at hk
  | _ :: _ :: _, vs, e => rw [← hl, ← hk] at e; simp at e
 | some n =>
  simp only [K.size] at hk
  have e : (List.range n).map c = vs := by
   apply List.ext_getElem
   ·simp; omega
   ·intro m hm hm'
    simp [hc m hm']
  refine ⟨xs, .a xs, by simp [mkD]; omega, h1, ?_⟩
  simp only [mkV, e]
  exact .a xs vs h2 h.flat h3
section
variable {H : Type} {enc : TypeId × Value → H} {P : Program} {w : World} {sp : Nat → Bool} {held : Bool}
def Wts (P : Program) (t : TypeId) (d : DataW H) : Prop := ∀ n ∈ d.weights P t, n ≤ reachBytes
theorem wts_all {e : TypeId} : ∀ {l : List (DataW H)}, (∀ n ∈ DataW.weightsAll P e l, n ≤ reachBytes) → ∀ d ∈ l, Wts P e d
 | [], _, d, hd => by cases hd
 | x :: r, h, d, hd => by
  simp only [DataW.weightsAll, List.mem_append] at h
  rcases List.mem_cons.1 hd with rfl | hd
  ·exact fun n hn => h n (.inl hn)
  ·exact wts_all (fun n hn => h n (.inr hn)) d hd
theorem wts_each : ∀ {ts : List TypeId} {l : List (DataW H)}, (∀ n ∈ DataW.weightsEach P ts l, n ≤ reachBytes) → ∀ i (h : i < ts.length) (h' : i < l.length), Wts P ts[i] l[i]
 | [], _, _, i, h, _ => by cases h
 | _ :: _, [], _, i, _, h' => by cases h'
 | t :: ts, d :: r, h, i, hi, hi' => by
  simp only [DataW.weightsEach, List.mem_append] at h
  cases i with
  | zero => exact fun n hn => h n (.inl hn)
  | succ i => exact wts_each (fun n hn => h n (.inr hn)) i (by simpa using hi) (by simpa using hi')
theorem wts_slice {t e : TypeId} {el sl : List (DataW H)} (hu : P.underlying t = some (.slice e)) (h : Wts P t (.slice el sl)) : el.length * P.bytesOf e ≤ reachBytes ∧ ∀ d ∈ el, Wts P e d := by
 unfold Wts at h
 simp only [DataW.weights, hu, List.mem_cons, List.mem_append] at h
 refine ⟨Nat.le_trans (Nat.mul_le_mul_right _ (Nat.le_add_right _ _)) (h _ (.inl rfl)), fun d hd => wts_all (fun n hn => h n (.inr (.inl hn))) d hd⟩
theorem wts_struct {t : TypeId} {fs : Array Field} {l : List (DataW H)} (hu : P.underlying t = some (.struct fs)) (h : Wts P t (.agg l)) (i : Nat) (hi : i < fs.size) (hi' : i < l.length) : Wts P fs[i].type l[i] := by
 unfold Wts at h
 simp only [DataW.weights, hu] at h
 have := wts_each h i (by simpa using hi) hi'
 simpa using this
theorem wts_array {t e : TypeId} {m : Nat} {l : List (DataW H)} (hu : P.underlying t = some (.array m e)) (h : Wts P t (.agg l)) : ∀ d ∈ l, Wts P e d := by
 unfold Wts at h
 simp only [DataW.weights, hu] at h
 exact wts_all h
theorem cr_struct {rec : TypeId → Option (List Ty)} {cs : List Value} {n : Nat} (hn : cs.length = n) : ∀ (fs : List Field) (off : Nat) (ts : List Ty), off ≤ n → tyFs P rec fs off n = some ts →
  (∀ f ∈ fs, ∀ ts', rec f.type = some ts' → CR w ts' ((cs.drop f.offset).take (P.cellsOf f.type))) → CR w ts (cs.drop off)
 | [], off, ts, ho, h, _ => by
  simp only [tyFs] at h
  split at h
  ·cases h
   rw [List.drop_eq_nil_iff.2 (by omega)]
   trivial
  ·cases h
 | f :: fs, off, ts, ho, h, hf => by
  simp only [tyFs] at h
  split at h
  ·cases h
  rename_i h1
  have h1 : f.offset = off := by simpa using h1
  obtain ⟨a, ha, h⟩ := Option.bind_eq_some_iff.1 h
  split at h
  ·cases h
  rename_i h2
  have h2 : a.length = P.cellsOf f.type := by simpa using h2
  obtain ⟨b, hb, h⟩ := Option.bind_eq_some_iff.1 h
  cases h
  have k1 := hf f (List.mem_cons_self ..) a ha
  have k1l := k1.len
  rw [h1, ← h2] at k1
  have hle : off + a.length ≤ n := by
   rw [List.length_take, List.length_drop, h1] at k1l; omega
  have k2 := cr_struct hn fs (off + a.length) b hle hb (fun g hg => hf g (List.mem_cons_of_mem _ hg))
  have := k1.append k2
  rwa [← List.drop_drop, List.take_append_drop] at this
theorem cr_array {cs : List Value} {c : Nat} {ts : List Ty} (ht : ts.length = c) : ∀ (m i : Nat), cs.length = (i + m) * c → (∀ j, i ≤ j → j < i + m → CR w ts ((cs.drop (j * c)).take c)) → CR w (List.replicate m ts).flatten (cs.drop (i * c))
 | 0, i, hl, _ => by
  rw [List.drop_eq_nil_iff.2 (by rw [hl]; simp)]
  trivial
 | m + 1, i, hl, h => by
  have k1 := h i (Nat.le_refl _) (by omega)
  have k2 := cr_array ht m (i + 1) (by rw [hl]; congr 1; omega) (fun j hj hj' => h j (by omega) (by omega))
  have := k1.append k2
  rw [Nat.succ_mul, ← List.drop_drop, List.take_append_drop] at this
  simpa [List.replicate_succ] using this
theorem cr_slice {t e : TypeId} {fuel : Nat} {cs : List Value} {x : DataW H × List MemPlace} {k : K} {c : Nat} {Pe : DV → Prop} (hu : P.underlying t = some (.slice e)) (hd : DataW.trod enc P w 0 sp held fuel t cs = some x) (hc1 : c = P.cellsOf e) (hc2 : k.size = c) (hc3 : 0 < c) (hw : Wts P t x.1)
  (hel : ∀ n cs' x', n < fuel → DataW.trod enc P w 0 sp held n e cs' = some x' → Wts P e x'.1 → ∃ us, us.length = c ∧ CR w us cs' ∧ ∀ xs ee, mkD k xs = some ee → HasL us xs → Pe ee) :
  ∃ v E, cs = [v] ∧ flat v ∧ RelD w (Live w) (.l k E false) v ∧ E.length ≤ maxLen ∧ E.length * P.bytesOf e ≤ cap47 ∧ ∀ e ∈ E, Pe e := by
 rcases DataW.trod_slice hu hd with ⟨rfl, -⟩ | ⟨a, len, cap, elems, rest, n, rfl, rfl, hxe, hb, hl, hm, hlen, hx, -, -⟩
 ·refine ⟨_, [], rfl, rfl, ?_, by simp, by simp, fun e he => by cases he⟩
  exact .l k [] false none 0 0 0 (fun _ _ => .bool false) (Nat.le_refl _) (fun h => by cases h) (fun h => by cases h) (fun j h => by cases h) (fun j h => by cases h)
 ·rw [hxe] at hw
  obtain ⟨hw1, hw2⟩ := wts_slice hu hw
  have hs : ∀ i, i < len → ∃ V : (Nat → Value) × DV, (∀ q, q < k.size → w.cell? (a.add (i * P.cellsOf e + q)) = some (V.1 q) ∧ flat (V.1 q)) ∧ Pe V.2 ∧ RelD w (Live w) V.2 (mkV k V.1) := by
   intro i hi
   have h0 := hx i hi
   rw [List.getElem?_eq_getElem (by omega)] at h0
   obtain ⟨cs', h1, h2⟩ := Option.bind_eq_some_iff.1 h0
   obtain ⟨us, hus, h3, hpe⟩ := hel n cs' _ (Nat.lt_succ_self n) h2 (hw2 _ (List.mem_map.2 ⟨_, List.getElem_mem _, rfl⟩))
   obtain ⟨-, h4, h5⟩ := World.cells?_some h1
   obtain ⟨xs, ee, e1, e2, e3⟩ := h3.val (k := k) (by omega) (fun q => cs'.getD q (.bool false)) (fun q hq => by simp [hq])
   have hul := h3.len
   refine ⟨(fun q => cs'.getD q (.bool false), ee), ?_, hpe xs ee e1 e2, e3⟩
   intro q hq
   have hq' : q < cs'.length := by omega
   have h6 := h5 q (by omega)
   rw [List.getElem?_eq_getElem hq'] at h6
   have e7 : (cs'.getD q (.bool false)) = cs'[q] := by simp [hq']
   refine ⟨?_, ?_⟩
   ·rw [show (a.add (i * P.cellsOf e + q)) = (a.add (i * P.cellsOf e)).add q by by_cases g1 : i * P.cellsOf e = 0 <;> by_cases g2 : q = 0 <;> simp [Addr.add, g1, g2, Nat.add_assoc]]
    simp only [e7]; exact h6
   ·show flat (cs'.getD q (.bool false))
    rw [e7]; exact h3.flat _ (List.getElem_mem _)
  have : Inhabited ((Nat → Value) × DV) := ⟨(fun _ => .bool false, .np)⟩
  obtain ⟨V, hV⟩ := choose_lt hs
  obtain ⟨E, hE, hEV⟩ : ∃ E : List DV, E.length = len ∧ ∀ i (h : i < E.length), E[i] = (V i).2 := ⟨(List.range len).map fun i => (V i).2, by simp, fun i h => by simp⟩
  subst hE
  have hk0 : 0 < k.size := by omega
  have sp0 : ∀ j, j < E.length → a.spot = none := by
   intro j hj
   have := World.cell?_spot ((hV 0 (by omega)).1 0 hk0).1
   simpa [Addr.add] using this
  refine ⟨_, E, rfl, rfl, ?_, by omega, by simp only [List.length_map, hlen] at hw1; unfold cap47; unfold reachBytes at hw1; omega, ?_⟩
  ·refine RelD.l (w := w) (S := Live w) k E false (some a) cap a.block a.off (fun j => (V j).1) hl (fun h => by cases h) ?_ ?_ ?_
   ·intro h0
    have := sp0 0 h0
    cases a; simp_all
   ·intro j hj q hq
    obtain ⟨g1, g2⟩ := (hV j hj).1 q hq
    have hs0 := sp0 j hj
    have e8 : a.add (j * P.cellsOf e + q) = ⟨a.block, a.off + j * k.size + q, none⟩ := by
     rw [← hc1, ← hc2]
     obtain ⟨ab, ao, as0⟩ := a
     simp only at hs0
     subst hs0
     by_cases g : j * k.size + q = 0 <;> simp [Addr.add, g, Nat.add_assoc]
     omega
    rw [e8] at g1
    exact ⟨g1, ⟨_, g1⟩, g2⟩
   ·intro j hj
    rw [hEV j hj]
    exact (hV j hj).2.2
  ·intro ee he
   obtain ⟨i, hi, rfl⟩ := List.getElem_of_mem he
   rw [hEV i hi]
   exact (hV i hi).2.1
theorem cr_base {u : TypeId} {fuel : Nat} {cs : List Value} {x : DataW H × List MemPlace} {ts : List Ty} (hd : DataW.trod enc P w 0 sp held fuel u cs = some x) (h : tyB P u = some ts) : CR w ts cs := by
 unfold tyB at h
 split at h
 ·rename_i hu
  cases h
  obtain ⟨b, rfl, -⟩ := DataW.trod_bool hu hd
  exact ⟨⟨rfl, .b b, by simp [Has], .b b⟩, trivial⟩
 ·rename_i k hu
  cases h
  obtain ⟨m, rfl, -, hw⟩ := DataW.trod_int hu hd
  exact ⟨⟨rfl, .i k m, by simp [Has, hw], .i k m⟩, trivial⟩
 ·rename_i hu
  cases h
  obtain ⟨s, rfl, -, hs⟩ := DataW.trod_string hu hd
  exact ⟨⟨rfl, .s s.data.toList, by simpa [Has] using hs, .s _ s rfl⟩, trivial⟩
 ·cases h
theorem xe_of {xs : List DV} {ee : DV} (h1 : mkD (some 4) xs = some ee) (h2 : HasL [.i .i64, .i .i64, .s, .e] xs) : XE ee := by
 match xs, h2 with
 | [x1, x2, x3, x4], h2 =>
  simp only [HasL, Has, and_true] at h2
  obtain ⟨⟨o, rfl, ho⟩, ⟨n, rfl, hn⟩, ⟨s, rfl, hs⟩, h4⟩ := h2
  simp only [mkD, List.length_cons, List.length_nil, if_true, Option.some.injEq] at h1
  subst h1
  exact .mk o n s x4 ho hn hs h4
 | [], h2 => simp [HasL] at h2
 | [_], h2 => simp [HasL] at h2
 | [_, _], h2 => simp [HasL] at h2
 | [_, _, _], h2 => simp [HasL] at h2
 | _ :: _ :: _ :: _ :: _ :: _, h2 => simp [HasL] at h2
theorem xl_of {t : TypeId} (ht : exprB P t = true) : ∀ (m fuel : Nat) (cs : List Value) (x : DataW H × List MemPlace), fuel ≤ m → DataW.trod enc P w 0 sp held fuel t cs = some x → Wts P t x.1 → CR w [.e] cs := by
 have ht0 := ht
 unfold exprB at ht
 split at ht
 case h_2 => cases ht
 rename_i e hu
 simp only [Bool.and_eq_true, decide_eq_true_eq] at ht
 obtain ⟨hk, ⟨hc, hb⟩, ht⟩ := ht
 split at ht
 case h_2 => cases ht
 rename_i fs hf
 obtain ⟨ts, hts, h4⟩ : ∃ ts, tyFs P (fun u => if u = t then some [.e] else tyB P u) fs.toList 0 4 = some ts ∧ ts = [.i .i64, .i .i64, .s, .e] := by
  unfold isX4 at ht
  split at ht
  ·rename_i hq; exact ⟨_, hq, rfl⟩
  ·cases ht
 subst h4
 intro m
 induction m with
 | zero =>
  intro fuel cs x hm hd _
  obtain rfl : fuel = 0 := by omega
  simp [DataW.trod] at hd
 | succ m ih =>
  intro fuel cs x hm hd hw
  obtain ⟨v, E, rfl, hfl, hr, hlen, hlb, hE⟩ := cr_slice (k := some 4) (c := 4) (Pe := XE) hu hd hc.symm rfl (by decide) hw (fun n cs' x' hn hd' hw' => by
   refine ⟨_, rfl, ?_, fun xs ee h1 h2 => xe_of h1 h2⟩
   obtain ⟨xs, n', rfl, hxe, hl, hl2, hx⟩ := DataW.trod_struct hf hd'
   rw [hxe] at hw'
   have := cr_struct (P := P) (w := w) (rec := fun u => if u = t then some [.e] else tyB P u) (hl.trans hc) fs.toList 0 _ (Nat.zero_le _) hts (fun f hf' ts' hts' => by
    obtain ⟨i, hi, rfl⟩ := List.getElem_of_mem hf'
    have hi' : i < fs.size := by simpa using hi
    have h5 := hx i fs[i] (by simp [hi'])
    rw [List.getElem?_eq_getElem (by omega)] at h5
    simp only [Array.getElem_toList] at hts' ⊢
    split at hts'
    ·rename_i hft
     cases hts'
     rw [hft] at h5 ⊢
     exact ih n' _ _ (by omega) h5 (by have := wts_struct hf hw' i hi' (by simp; omega); rw [hft] at this; simpa using this)
    ·exact cr_base h5 hts')
   simpa using this)
  exact ⟨⟨hfl, _, by rw [Has]; exact .mk E hlen hE (by rw [← hb]; exact hlb), hr⟩, trivial⟩
theorem cr_of (n : Nat) : ∀ {fuel : Nat} {t : TypeId} {cs : List Value} {x : DataW H × List MemPlace} {ts : List Ty}, DataW.trod enc P w 0 sp held fuel t cs = some x → Wts P t x.1 → tyOf P n t = some ts → CR w ts cs := by
 induction n with
 | zero => intro fuel t cs x ts _ _ h; cases h
 | succ n ih =>
  intro fuel t cs x ts hd hw h
  simp only [tyOf] at h
  split at h
  ·rename_i hu
   cases h
   obtain ⟨b, rfl, -⟩ := DataW.trod_bool hu hd
   exact ⟨⟨rfl, .b b, by simp [Has], .b b⟩, trivial⟩
  ·rename_i k hu
   cases h
   obtain ⟨m, rfl, -, hw⟩ := DataW.trod_int hu hd
   exact ⟨⟨rfl, .i k m, by simp [Has, hw], .i k m⟩, trivial⟩
  ·rename_i hu
   cases h
   obtain ⟨s, rfl, -, hs⟩ := DataW.trod_string hu hd
   exact ⟨⟨rfl, .s s.data.toList, by simpa [Has] using hs, .s _ s rfl⟩, trivial⟩
  ·rename_i e hu
   split at h
   ·rename_i hX
    cases h
    exact xl_of hX fuel fuel cs x (Nat.le_refl _) hd hw
   obtain ⟨k, hk, h⟩ := Option.bind_eq_some_iff.1 h
   obtain ⟨us, hus, h⟩ := Option.bind_eq_some_iff.1 h
   split at h
   ·rename_i hc
    cases h
    obtain ⟨hc1, hc2, hc3⟩ := hc
    obtain ⟨v, E, rfl, hfl, hr, hlen, hlb, hE⟩ := cr_slice (k := k) (c := us.length) (Pe := fun ee => ∃ cs, mkD k cs = some ee ∧ HasL us cs) hu hd hc1 hc2 hc3 hw (fun n' cs' x' _ hd' hw' => ⟨us, rfl, ih hd' hw' hus, fun xs ee h1 h2 => ⟨xs, h1, h2⟩⟩)
    refine ⟨⟨hfl, _, ?_, hr⟩, trivial⟩
    rw [Has]
    exact ⟨E, rfl, hlen, hlb, hE⟩
   ·cases h
  ·rename_i fs hu
   obtain ⟨xs, m, -, hxe, hl, hl2, hx⟩ := DataW.trod_struct hu hd
   rw [hxe] at hw
   have := cr_struct (P := P) (w := w) (rec := tyOf P n) hl fs.toList 0 ts (Nat.zero_le _) h (fun f hf ts' hts => by
    obtain ⟨i, hi, rfl⟩ := List.getElem_of_mem hf
    have hi' : i < fs.size := by simpa using hi
    have := hx i fs[i] (by simp [hi'])
    rw [List.getElem?_eq_getElem (by omega)] at this
    simpa using ih this (by have := wts_struct hu hw i hi' (by simp; omega); simpa using this) hts)
   simpa using this
  ·rename_i m e hu
   obtain ⟨us, hus, h⟩ := Option.bind_eq_some_iff.1 h
   split at h
   ·rename_i hc
    cases h
    obtain ⟨xs, m', -, hxe, hl, hl2, hx⟩ := DataW.trod_array hu hd
    rw [hxe] at hw
    have := cr_array (w := w) (cs := cs) hc.1 m 0 (by rw [hl, hc.2]; simp) (fun j _ hj => by
     have := hx j (by omega)
     rw [List.getElem?_eq_getElem (by omega)] at this
     exact ih this (wts_array hu hw _ (List.mem_map.2 ⟨_, List.getElem_mem _, rfl⟩)) hus)
    simpa using this
   ·cases h
  ·cases h
end
end Go.Sim
end
section
open Go.RowKit
namespace Go.Sim
section
variable {P : Program} {W : World}
theorem laidVars_get {n : String} {d : DataW Unit} : ∀ {l : List (String × DataW Unit)} {ps : List MemPlace}, DataW.LaidVars P W l ps → (n, d) ∈ l →
  ∃ g t cs fuel p, P.globalNamed n = some g ∧ (P.globals[g]?).map (·.type) = some t ∧ W.var? P n = some cs ∧ DataW.trod (fun _ => ()) P W 0 (fun _ => true) false fuel t cs.toList = some (d, p) ∧ ∀ x ∈ MemPlace.row ⟨g, 0, none⟩ cs.size, x ∈ ps
 | [], _, _, h => by cases h
 | (m, e) :: r, ps, h, hm => by
  obtain ⟨g, t, cs, fuel, p, q, h1, h2, h3, h4, h5, rfl⟩ := h
  rcases List.mem_cons.1 hm with h | h
  ·cases h
   exact ⟨g, t, cs, fuel, p, h1, h2, h3, h4, fun x hx => List.mem_append_left _ (List.mem_append_left _ hx)⟩
  ·obtain ⟨g', t', cs', fuel', p', a1, a2, a3, a4, a5⟩ := laidVars_get h5 h
   exact ⟨g', t', cs', fuel', p', a1, a2, a3, a4, fun x hx => List.mem_append_right _ (a5 x hx)⟩
theorem laid_block {laid : List (String × DataW Unit)} (h : laidMet P laid W) {n : String} {d : DataW Unit} (hm : (n, d) ∈ laid) {g : Nat} (hg : P.globalNamed n = some g) {t : TypeId} (ht : (P.globals[g]?).map (·.type) = some t) :
  ∃ (cs : Array Value) (fuel : Nat) (p : List MemPlace), DataW.trod (fun _ => ()) P W 0 (fun _ => true) false fuel t cs.toList = some (d, p) ∧ (0 < cs.size → ∃ e, W.shape? g = some (e, cs.size)) ∧ ∀ j (hj : j < cs.size), W.cell? ⟨g, j, none⟩ = some cs[j] := by
 obtain ⟨ps, h1, -, h3⟩ := h
 obtain ⟨g', t', cs, fuel, p, a1, a2, a3, a4, a5⟩ := laidVars_get h1 hm
 obtain rfl := Option.some.inj (hg.symm.trans a1)
 obtain rfl := Option.some.inj (ht.symm.trans a2)
 have hheap : ∃ e fz, W.heap[g]? = some (.cells cs e fz) := by
  unfold World.var? at a3
  rw [hg] at a3
  simp only [Option.bind_some] at a3
  split at a3
  ·rename_i cs' e fz hw
   cases a3
   exact ⟨e, fz, hw⟩
  ·cases a3
 obtain ⟨e, fz, hw⟩ := hheap
 refine ⟨cs, fuel, p, a4, ?_, ?_⟩
 ·intro hp
  obtain ⟨⟨c, u, hc⟩, -⟩ := h3 g 0 (a5 _ (by unfold MemPlace.row; exact List.mem_map.2 ⟨0, List.mem_range.2 hp, rfl⟩))
  rw [hw] at hc
  cases hc
  exact ⟨e, by simp [World.shape?, hw]⟩
 ·intro j hj
  simp [World.cell?, hw, hj]
theorem gok_cells {S : Stab} (hS : S = Live W) {g : Nat} {zs : List (IntKind × Int)} (hz : 0 < zs.length) {cs : Array Value} (hl : cs.toList = zs.map fun z => Value.int z.1 z.2) (hs : 0 < cs.size → ∃ e, W.shape? g = some (e, cs.size)) (hc : ∀ j (hj : j < cs.size), W.cell? ⟨g, j, none⟩ = some cs[j]) :
  (∃ e, W.shape? g = some (e, zs.length)) ∧ ∃ f, At W S g 0 zs.length f ∧ RelD W S (.a (zs.map fun z => .i z.1 z.2)) (mkV (some zs.length) f) := by
 subst hS
 have hn : cs.size = zs.length := by rw [← Array.length_toList, hl, List.length_map]
 have hget : ∀ j (hj : j < zs.length), cs[j]'(by omega) = .int zs[j].1 zs[j].2 := fun j hj => by
  have h1 : cs.toList[j]'(by rw [Array.length_toList]; omega) = cs[j]'(by omega) := Array.getElem_toList _
  rw [← h1]
  simp only [hl, List.getElem_map]
 refine ⟨?_, fun j => cs.getD j (.bool false), ?_, ?_⟩
 ·obtain ⟨e, he⟩ := hs (by omega)
  exact ⟨e, by rw [he, hn]⟩
 ·intro j hj
  have h1 := hc j (by omega)
  have h2 : cs.getD j (.bool false) = cs[j]'(by omega) := by simp [Array.getD, show j < cs.size by omega]
  refine ⟨by rw [Nat.zero_add]; show _ = some (cs.getD j (.bool false)); rw [h2]; exact h1, ⟨_, by rw [Nat.zero_add]; exact h1⟩, ?_⟩
  show flat (cs.getD j (.bool false))
  rw [h2, hget j hj]; rfl
 ·simp only [mkV]
  refine RelD.a _ _ (by simp) ?_ ?_
  ·intro v hv
   obtain ⟨j, hj, rfl⟩ := List.mem_map.1 hv
   have hj := List.mem_range.1 hj
   have h2 : cs.getD j (.bool false) = cs[j]'(by omega) := by simp [Array.getD, show j < cs.size by omega]
   show flat (cs.getD j (.bool false))
   rw [h2, hget j hj]; rfl
  ·intro j hj hj'
   simp only [List.length_map] at hj
   simp only [List.getElem_map, List.getElem_range]
   have h2 : cs.getD j (.bool false) = cs[j]'(by omega) := by simp [Array.getD, show j < cs.size by omega]
   rw [h2, hget j hj]
   exact .i _ _
theorem gok_ints {laid : List (String × DataW Unit)} (h : laidMet P laid W) {n : String} {k : IntKind} {zs : List Int} (hm : (n, .agg (zs.map fun z => .lit (.int k z))) ∈ laid) {g : Nat} (hg : P.globalNamed n = some g) {t : TypeId} (ht : (P.globals[g]?).map (·.type) = some t)
  {m : Nat} {e : TypeId} (hu : P.underlying t = some (.array m e)) (he : P.underlying e = some (.int k)) (hc : P.cellsOf e = 1) (hct : P.cellsOf t = m) (hz : 0 < zs.length) :
  (∃ e, W.shape? g = some (e, zs.length)) ∧ ∃ f, At W (Live W) g 0 zs.length f ∧ RelD W (Live W) (.a (zs.map fun z => .i k z)) (mkV (some zs.length) f) := by
 obtain ⟨cs, fuel, p, h1, h2, h3⟩ := laid_block h hm hg ht
 obtain ⟨xs, m', rfl, hx, hl, hxl, hel⟩ := DataW.trod_array hu h1
 simp only [Prod.mk.injEq, DataW.agg.injEq] at hx
 have hzl : zs.length = m := by
  have := congrArg List.length hx.1
  simp only [List.length_map] at this
  omega
 have hcs : cs.toList = (zs.map fun z => (k, z)).map fun z => Value.int z.1 z.2 := by
  apply List.ext_getElem
  ·simp only [List.length_map]; rw [hl, hct, hzl]
  ·intro j hj hj'
   simp only [List.length_map] at hj'
   have hjm : j < m := by omega
   have h4 := hel j hjm
   rw [hc, Nat.mul_one, List.getElem?_eq_getElem (by omega)] at h4
   obtain ⟨n', e1, e2, -⟩ := DataW.trod_int he h4
   have e3 : cs.toList[j] = .int k n' := by
    have : (cs.toList.drop j).take 1 = [cs.toList[j]] := by
     rw [List.drop_eq_getElem_cons hj]; rfl
    rw [this] at e1
    exact (List.cons.inj e1).1
   rw [e3]
   have e4 : (xs.map (·.1))[j]'(by simp; omega) = .lit (.int k n') := by simp only [List.getElem_map]; rw [e2]
   have e5 : (zs.map fun z => (DataW.lit (.int k z) : DataW Unit))[j]'(by simp; omega) = .lit (.int k n') := by
    rw [← e4]; congr 1; exact hx.1
   simp only [List.getElem_map] at e5
   have e6 : zs[j] = n' := by simpa using e5
   simp only [List.getElem_map]
   rw [e6]
 have := gok_cells (W := W) rfl (g := g) (zs := zs.map fun z => (k, z)) (by simpa using hz) hcs h2 h3
 simpa only [List.length_map, List.map_map, Function.comp_def] using this
noncomputable def gnum (gl : List (Nat × Nat)) (g : Nat) : Nat := look (fun x => x) (g + 100) gl g
theorem gok_of {f : FuncId → Option (Nat × Nat)} {gl : List (Nat × Nat)} {gs : List (Nat × DV × K)} {S : Stab} (hlow : (gs.all fun x => Nat.blt x.1 100) = true)
  (h : ∀ x ∈ gl, ∀ v k, look some none gs x.2 = some (v, k) → (∃ e, W.shape? x.1 = some (e, k.size)) ∧ ∃ c, At W S x.1 0 k.size c ∧ RelD W S v (mkV k c)) : GOK ⟨f, gnum gl⟩ (look some none gs) W S := by
 intro g v k hg
 change look some none gs (gnum gl g) = _ at hg
 unfold gnum at hg
 rcases look_mem (f := fun x => x) (z := g + 100) (l := gl) (n := g) with h1 | ⟨x, h1, h2⟩
 ·exfalso
  rw [h1] at hg
  rcases look_mem (f := some) (z := none) (l := gs) (n := g + 100) with h3 | ⟨y, h3, -⟩
  ·rw [h3] at hg; cases hg
  ·have := List.all_eq_true.1 hlow _ h3
   have := Nat.le_of_ble_eq_true this
   omega
 ·rw [h2] at hg
  exact h (g, x) h1 v k hg
end
end Go.Sim
end
section
namespace Go.Sim
def annC : PC → List (List Nat) → PC × List (List Nat)
 | .seq a b, l => (.seq (annC a l).1 (annC b (annC a l).2).1, (annC b (annC a l).2).2)
 | .cond c x y, l => (.cond c (annC x l).1 (annC y (annC x l).2).1, (annC y (annC x l).2).2)
 | .block id x, l => (.block id (annC x l).1, (annC x l).2)
 | .loop _ x, m :: l => (.loop m (annC x l).1, (annC x l).2)
 | .rng f g ps _ a x, m :: l => (.rng f g ps m (annC a l).1 (annC x (annC a l).2).1, (annC x (annC a l).2).2)
 | c, l => (c, l)
def annF (F : PF) (l : List (List Nat)) : PF := ⟨F.nargs, F.results, (annC F.body l).1⟩
end Go.Sim
end
