/- Part 8 of the proof: CbA51sb. -/
import Derived.Test.YtabmmheiohiieaaGreatDoorB2
namespace Go.Sim
def F218 : PF := ⟨2, [.t 4],
 sq (.reg [
 O 2 (.box (K1 10) (.t 0)),
 O 3 (.box (K1 10) (.t 1)),
 O 4 (.mov (.c (.b false)))] [4, 1, 0]) (
 sq (sq (.reg [
 O 5 (.faddr 0 (.t 2)),
 O 6 (.load K0 (.t 5)),
 O 7 (.faddr 0 (.t 3)),
 O 8 (.load K0 (.t 7)),
 O 9 (.bin .neq (.t 6) (.t 8)),
 O 10 (.mov (.t 9)),
 OG 11 10 false (.faddr 1 (.t 2)),
 OG 12 10 false (.load K0 (.t 11)),
 OG 13 10 false (.faddr 1 (.t 3)),
 OG 14 10 false (.load K0 (.t 13)),
 OG 15 10 false (.bin .neq (.t 12) (.t 14)),
 O 16 (.pick (.t 10) (.c (.b true)) (.t 15)),
 O 17 (.mov (.t 16)),
 OG 18 17 false (.faddr 2 (.t 2)),
 OG 19 17 false (.load K0 (.t 18)),
 OG 20 17 false (.faddr 2 (.t 3)),
 OG 21 17 false (.load K0 (.t 20)),
 OG 22 17 false (.bin .neq (.t 19) (.t 21)),
 O 23 (.pick (.t 17) (.c (.b true)) (.t 22)),
 O 24 (.mov (.t 23)),
 OG 25 24 false (.faddr 3 (.t 2)),
 OG 26 24 false (.load K0 (.t 25)),
 OG 27 24 false (.faddr 3 (.t 3)),
 OG 28 24 false (.load K0 (.t 27)),
 OG 29 24 false (.bin .neq (.t 26) (.t 28)),
 O 30 (.pick (.t 24) (.c (.b true)) (.t 29)),
 O 31 (.mov (.t 30)),
 OG 32 31 false (.faddr 4 (.t 2)),
 OG 33 31 false (.load K0 (.t 32)),
 OG 34 31 false (.faddr 4 (.t 3)),
 OG 35 31 false (.load K0 (.t 34)),
 OG 36 31 false (.bin .neq (.t 33) (.t 35)),
 O 37 (.pick (.t 31) (.c (.b true)) (.t 36)),
 O 38 (.mov (.t 37)),
 OG 39 38 false (.faddr 5 (.t 2)),
 OG 40 38 false (.load K0 (.t 39)),
 OG 41 38 false (.faddr 5 (.t 3)),
 OG 42 38 false (.load K0 (.t 41)),
 OG 43 38 false (.bin .neq (.t 40) (.t 42)),
 O 44 (.pick (.t 38) (.c (.b true)) (.t 43))] [43, 42, 41, 40, 39, 38, 37, 36, 35, 34, 33, 32, 31, 30, 29, 28, 27, 26, 25, 24, 23, 22, 21, 20, 19, 18, 17, 16, 15, 14, 13, 12, 11, 10, 9, 8, 7, 6, 5]) (
 .cond (.t 44) (sq (.reg [
 O 4 (.mov (.c (.b false)))] []) (
 .ret))
 (.skip))) (
 sq (.reg [
 O 45 (.faddr 6 (.t 2)),
 O 46 (.load K0 (.t 45)),
 O 47 (.faddr 6 (.t 3)),
 O 48 (.load K0 (.t 47)),
 O 49 (.bin .eql (.t 46) (.t 48)),
 O 50 (.mov (.t 49)),
 OG 51 50 true (.faddr 7 (.t 2)),
 OG 52 50 true (.load K0 (.t 51)),
 OG 53 50 true (.faddr 7 (.t 3)),
 OG 54 50 true (.load K0 (.t 53)),
 OG 55 50 true (.bin .eql (.t 52) (.t 54)),
 O 56 (.pick (.t 50) (.t 55) (.c (.b false))),
 O 57 (.mov (.t 56)),
 OG 58 57 true (.faddr 9 (.t 2)),
 OG 59 57 true (.load K0 (.t 58)),
 OG 60 57 true (.faddr 9 (.t 3)),
 OG 61 57 true (.load K0 (.t 60)),
 OG 62 57 true (.bin .eql (.t 59) (.t 61)),
 O 63 (.pick (.t 57) (.t 62) (.c (.b false))),
 O 64 (.mov (.t 63)),
 OG 65 64 true (.faddr 8 (.t 2)),
 OG 66 64 true (.load K0 (.t 65)),
 OG 67 64 true (.faddr 8 (.t 3)),
 OG 68 64 true (.load K0 (.t 67)),
 OG 69 64 true (.call 0 299 [(.t 66), (.t 68)]),
 O 70 (.pick (.t 64) (.t 69) (.c (.b false))),
 O 4 (.mov (.t 70))] [70, 69, 68, 67, 66, 65, 64, 63, 62, 61, 60, 59, 58, 57, 56, 55, 54, 53, 52, 51, 50, 49, 48, 3, 47, 46, 2, 45]) (
 .ret)))⟩
def L219_0 : PC :=
 sq (.reg [
 O 14 (.bin .lss (.t 13) (.t 12))] []) (
 sq (.cond (.t 14) (.skip)
 (.exit 0)) (
 sq (.block 1 (
 sq (.reg [
 O 15 (.mov (.t 13)),
 O 5 (.mov (.t 15))] [15]) (
 sq (.regD [
 O 16 (.mov (.t 0)),
 O 17 (.mov (.t 5)),
 O 18 (.iaddr (K1 4) (.t 16) (.t 17)),
 O 19 (.load (K1 4) (.t 18)),
 O 20 (.mov (.t 1)),
 O 21 (.mov (.t 5)),
 O 22 (.iaddr (K1 4) (.t 20) (.t 21)),
 O 23 (.load (K1 4) (.t 22)),
 O 24 (.eqv true [1, 1, 1, 1] (.t 19) (.t 23))] [0, 0, 3, 7, 0, 0, 48, 112, 255] [23, 22, 21, 20, 19, 18, 5, 17, 16]) (
 .cond (.t 24) (sq (.reg [
 O 4 (.mov (.c (.b false)))] []) (
 .ret))
 (.skip))))) (
 .reg [
 O 25 (.bin .add (.t 13) (.c (I 1))),
 O 13 (.mov (.t 25))] [25])))
def F219 : PF := ⟨2, [.t 4],
 sq (.reg [
 O 4 (.mov (.c (.b false)))] [4]) (
 sq (sq (.reg [
 O 6 (.mov (.t 0)),
 O 7 (.len false (.t 6)),
 O 8 (.mov (.t 1)),
 O 9 (.len false (.t 8)),
 O 10 (.bin .neq (.t 7) (.t 9))] [9, 8, 7, 6]) (
 .cond (.t 10) (sq (.reg [
 O 4 (.mov (.c (.b false)))] []) (
 .ret))
 (.skip))) (
 sq (sq (.reg [
 O 11 (.mov (.t 0)),
 O 12 (.len false (.t 11)),
 O 13 (.mov (.c (I 0)))] [11]) (
 .block 0 (
 .loop [0, 1, 12, 13] L219_0))) (
 sq (.reg [
 O 4 (.mov (.c (.b true)))] []) (
 .ret))))⟩
def L220_0 : PC :=
 sq (.reg [
 O 14 (.bin .lss (.t 13) (.t 12))] []) (
 sq (.cond (.t 14) (.skip)
 (.exit 0)) (
 sq (.block 1 (
 sq (.reg [
 O 15 (.mov (.t 13)),
 O 5 (.mov (.t 15))] [15]) (
 sq (.regD [
 O 16 (.mov (.t 0)),
 O 17 (.mov (.t 5)),
 O 18 (.iaddr (K1 14) (.t 16) (.t 17)),
 O 19 (.load (K1 14) (.t 18)),
 O 20 (.mov (.t 1)),
 O 21 (.mov (.t 5)),
 O 22 (.iaddr (K1 14) (.t 20) (.t 21)),
 O 23 (.load (K1 14) (.t 22)),
 O 24 (.eqv true [1, 1, 1, 1, 1, 1, 1, 1, 1, 1, 1, 1, 3, 3] (.t 19) (.t 23))] [0, 0, 3, 7, 0, 0, 48, 112, 255] [23, 22, 21, 20, 19, 18, 5, 17, 16]) (
 .cond (.t 24) (sq (.reg [
 O 4 (.mov (.c (.b false)))] []) (
 .ret))
 (.skip))))) (
 .reg [
 O 25 (.bin .add (.t 13) (.c (I 1))),
 O 13 (.mov (.t 25))] [25])))
def F220 : PF := ⟨2, [.t 4],
 sq (.reg [
 O 4 (.mov (.c (.b false)))] [4]) (
 sq (sq (.reg [
 O 6 (.mov (.t 0)),
 O 7 (.len false (.t 6)),
 O 8 (.mov (.t 1)),
 O 9 (.len false (.t 8)),
 O 10 (.bin .neq (.t 7) (.t 9))] [9, 8, 7, 6]) (
 .cond (.t 10) (sq (.reg [
 O 4 (.mov (.c (.b false)))] []) (
 .ret))
 (.skip))) (
 sq (sq (.reg [
 O 11 (.mov (.t 0)),
 O 12 (.len false (.t 11)),
 O 13 (.mov (.c (I 0)))] [11]) (
 .block 0 (
 .loop [0, 1, 12, 13] L220_0))) (
 sq (.reg [
 O 4 (.mov (.c (.b true)))] []) (
 .ret))))⟩
def L221_0 : PC :=
 sq (.reg [
 O 14 (.bin .lss (.t 13) (.t 12))] []) (
 sq (.cond (.t 14) (.skip)
 (.exit 0)) (
 sq (.block 1 (
 sq (.reg [
 O 15 (.mov (.t 13)),
 O 5 (.mov (.t 15))] [15]) (
 sq (.regD [
 O 16 (.mov (.t 0)),
 O 17 (.mov (.t 5)),
 O 18 (.iaddr (K1 4) (.t 16) (.t 17)),
 O 19 (.load (K1 4) (.t 18)),
 O 20 (.mov (.t 1)),
 O 21 (.mov (.t 5)),
 O 22 (.iaddr (K1 4) (.t 20) (.t 21)),
 O 23 (.load (K1 4) (.t 22)),
 O 24 (.eqv true [1, 1, 1, 3] (.t 19) (.t 23))] [0, 0, 3, 7, 0, 0, 48, 112, 255] [23, 22, 21, 20, 19, 18, 5, 17, 16]) (
 .cond (.t 24) (sq (.reg [
 O 4 (.mov (.c (.b false)))] []) (
 .ret))
 (.skip))))) (
 .reg [
 O 25 (.bin .add (.t 13) (.c (I 1))),
 O 13 (.mov (.t 25))] [25])))
def F221 : PF := ⟨2, [.t 4],
 sq (.reg [
 O 4 (.mov (.c (.b false)))] [4]) (
 sq (sq (.reg [
 O 6 (.mov (.t 0)),
 O 7 (.len false (.t 6)),
 O 8 (.mov (.t 1)),
 O 9 (.len false (.t 8)),
 O 10 (.bin .neq (.t 7) (.t 9))] [9, 8, 7, 6]) (
 .cond (.t 10) (sq (.reg [
 O 4 (.mov (.c (.b false)))] []) (
 .ret))
 (.skip))) (
 sq (sq (.reg [
 O 11 (.mov (.t 0)),
 O 12 (.len false (.t 11)),
 O 13 (.mov (.c (I 0)))] [11]) (
 .block 0 (
 .loop [0, 1, 12, 13] L221_0))) (
 sq (.reg [
 O 4 (.mov (.c (.b true)))] []) (
 .ret))))⟩
def F222 : PF := ⟨2, [.t 4],
 sq (.reg [
 O 2 (.box (K1 29) (.t 0)),
 O 3 (.box (K1 29) (.t 1)),
 O 4 (.mov (.c (.b false)))] [4, 1, 0]) (
 sq (.reg [
 O 6 (.faddr 0 (.t 2)),
 O 7 (.load K0 (.t 6)),
 O 8 (.faddr 0 (.t 3)),
 O 9 (.load K0 (.t 8)),
 O 10 (.bin .eql (.t 7) (.t 9)),
 O 11 (.mov (.t 10)),
 OG 12 11 true (.faddr 1 (.t 2)),
 OG 13 11 true (.load K0 (.t 12)),
 OG 14 11 true (.faddr 1 (.t 3)),
 OG 15 11 true (.load K0 (.t 14)),
 OG 16 11 true (.bin .eql (.t 13) (.t 15)),
 O 17 (.pick (.t 11) (.t 16) (.c (.b false))),
 O 18 (.mov (.t 17)),
 OG 19 18 true (.faddr 2 (.t 2)),
 OG 20 18 true (.load K0 (.t 19)),
 OG 21 18 true (.faddr 2 (.t 3)),
 OG 22 18 true (.load K0 (.t 21)),
 OG 23 18 true (.bin .eql (.t 20) (.t 22)),
 O 24 (.pick (.t 18) (.t 23) (.c (.b false))),
 O 25 (.mov (.t 24)),
 OG 26 25 true (.faddr 3 (.t 2)),
 OG 27 25 true (.load K0 (.t 26)),
 OG 28 25 true (.faddr 3 (.t 3)),
 OG 29 25 true (.load K0 (.t 28)),
 OG 30 25 true (.bin .eql (.t 27) (.t 29)),
 O 31 (.pick (.t 25) (.t 30) (.c (.b false))),
 O 32 (.mov (.t 31)),
 OG 33 32 true (.faddr 4 (.t 2)),
 OG 34 32 true (.load K0 (.t 33)),
 OG 35 32 true (.faddr 4 (.t 3)),
 OG 36 32 true (.load K0 (.t 35)),
 OG 37 32 true (.bin .eql (.t 34) (.t 36)),
 O 38 (.pick (.t 32) (.t 37) (.c (.b false))),
 O 39 (.mov (.t 38)),
 OG 40 39 true (.faddr 5 (.t 2)),
 OG 41 39 true (.load K0 (.t 40)),
 OG 42 39 true (.faddr 5 (.t 3)),
 OG 43 39 true (.load K0 (.t 42)),
 OG 44 39 true (.bin .eql (.t 41) (.t 43)),
 O 45 (.pick (.t 39) (.t 44) (.c (.b false))),
 O 5 (.mov (.t 45))] [45, 44, 43, 42, 41, 40, 39, 38, 37, 36, 35, 34, 33, 32, 31, 30, 29, 28, 27, 26, 25, 24, 23, 22, 21, 20, 19, 18, 17, 16, 15, 14, 13, 12, 11, 10, 9, 8, 7, 6]) (
 sq (.reg [
 O 46 (.mov (.t 5)),
 O 47 (.mov (.t 46)),
 OG 48 47 true (.faddr 6 (.t 2)),
 OG 49 47 true (.load K0 (.t 48)),
 OG 50 47 true (.faddr 6 (.t 3)),
 OG 51 47 true (.load K0 (.t 50)),
 OG 52 47 true (.bin .eql (.t 49) (.t 51)),
 O 53 (.pick (.t 47) (.t 52) (.c (.b false))),
 O 54 (.mov (.t 53)),
 OG 55 54 true (.faddr 7 (.t 2)),
 OG 56 54 true (.load K0 (.t 55)),
 OG 57 54 true (.faddr 7 (.t 3)),
 OG 58 54 true (.load K0 (.t 57)),
 OG 59 54 true (.bin .eql (.t 56) (.t 58)),
 O 60 (.pick (.t 54) (.t 59) (.c (.b false))),
 O 61 (.mov (.t 60)),
 OG 62 61 true (.faddr 8 (.t 2)),
 OG 63 61 true (.load K0 (.t 62)),
 OG 64 61 true (.faddr 8 (.t 3)),
 OG 65 61 true (.load K0 (.t 64)),
 OG 66 61 true (.bin .eql (.t 63) (.t 65)),
 O 67 (.pick (.t 61) (.t 66) (.c (.b false))),
 O 68 (.mov (.t 67)),
 OG 69 68 true (.faddr 9 (.t 2)),
 OG 70 68 true (.load (K1 12) (.t 69)),
 OG 71 68 true (.faddr 9 (.t 3)),
 OG 72 68 true (.load (K1 12) (.t 71)),
 OG 73 68 true (.eqv false [1, 1, 1, 1, 1, 1, 1, 1, 1, 1, 3, 3] (.t 70) (.t 72)),
 O 74 (.pick (.t 68) (.t 73) (.c (.b false))),
 O 75 (.mov (.t 74)),
 OG 76 75 true (.faddr 21 (.t 2)),
 OG 77 75 true (.load (K1 7) (.t 76)),
 OG 78 75 true (.faddr 21 (.t 3)),
 OG 79 75 true (.load (K1 7) (.t 78)),
 OG 80 75 true (.eqv false [3, 1, 1, 1, 1, 1, 3] (.t 77) (.t 79)),
 O 81 (.pick (.t 75) (.t 80) (.c (.b false))),
 O 82 (.mov (.t 81)),
 OG 83 82 true (.faddr 28 (.t 2)),
 OG 84 82 true (.load K0 (.t 83)),
 OG 85 82 true (.faddr 28 (.t 3)),
 OG 86 82 true (.load K0 (.t 85)),
 OG 87 82 true (.call 0 292 [(.t 84), (.t 86)]),
 O 88 (.pick (.t 82) (.t 87) (.c (.b false))),
 O 4 (.mov (.t 88))] [88, 87, 86, 85, 84, 83, 82, 81, 80, 79, 78, 77, 76, 75, 74, 73, 72, 71, 70, 69, 68, 67, 66, 65, 64, 63, 62, 61, 60, 59, 58, 57, 56, 55, 54, 53, 52, 51, 3, 50, 49, 2, 48, 47, 5, 46]) (
 .ret)))⟩
def L223_0 : PC :=
 sq (sq (.reg [
 O 11 (.mov (.t 5)),
 O 12 (.mov (.t 0)),
 O 13 (.len false (.t 12)),
 O 14 (.bin .lss (.t 11) (.t 13))] [13, 12, 11]) (
 .cond (.t 14) (.skip)
 (.exit 0))) (
 sq (.block 1 (
 sq (.regD [
 O 17 (.mov (.t 0)),
 O 18 (.mov (.t 5)),
 O 19 (.iaddr (K1 3) (.t 17) (.t 18)),
 O 20 (.faddr 0 (.t 19)),
 O 21 (.load K0 (.t 20)),
 O 22 (.mov (.t 1)),
 O 23 (.mov (.t 5)),
 O 24 (.iaddr (K1 3) (.t 22) (.t 23)),
 O 25 (.faddr 0 (.t 24)),
 O 26 (.load K0 (.t 25)),
 O 27 (.bin .neq (.t 21) (.t 26)),
 O 28 (.mov (.t 27)),
 OG 29 28 false (.mov (.t 0)),
 OG 30 28 false (.mov (.t 5)),
 OG 31 28 false (.iaddr (K1 3) (.t 29) (.t 30)),
 OG 32 28 false (.faddr 1 (.t 31)),
 OG 33 28 false (.load K0 (.t 32)),
 OG 34 28 false (.mov (.t 1)),
 OG 35 28 false (.mov (.t 5)),
 OG 36 28 false (.iaddr (K1 3) (.t 34) (.t 35)),
 OG 37 28 false (.faddr 1 (.t 36)),
 OG 38 28 false (.load K0 (.t 37)),
 OG 39 28 false (.call 0 300 [(.t 33), (.t 38)]),
 OG 40 28 false (.un .not (.t 39)),
 O 41 (.pick (.t 28) (.c (.b true)) (.t 40)),
 O 42 (.mov (.t 41)),
 OG 43 42 false (.mov (.t 0)),
 OG 44 42 false (.mov (.t 5)),
 OG 45 42 false (.iaddr (K1 3) (.t 43) (.t 44)),
 OG 46 42 false (.faddr 2 (.t 45)),
 OG 47 42 false (.load K0 (.t 46)),
 OG 48 42 false (.mov (.t 1)),
 OG 49 42 false (.mov (.t 5)),
 OG 50 42 false (.iaddr (K1 3) (.t 48) (.t 49)),
 OG 51 42 false (.faddr 2 (.t 50)),
 OG 52 42 false (.load K0 (.t 51)),
 OG 53 42 false (.call 0 300 [(.t 47), (.t 52)]),
 OG 54 42 false (.un .not (.t 53)),
 O 55 (.pick (.t 42) (.c (.b true)) (.t 54))] [0, 0, 3, 7, 15, 0, 0, 96, 224, 480, 1023, 2047, 4095, 4095, 16383, 32767, 65535, 4095, 4095, 397311, 921599, 1970175, 4194303, 8388607, 16777215, 33554431, 67108863, 67108863, 268435455, 536870911, 1073741823, 67108863, 67108863, 6509559807, 15099494399, 32279363583, 68719476735, 137438953471, 274877906943] [54, 53, 52, 51, 50, 49, 48, 47, 46, 45, 44, 43, 42, 41, 40, 39, 38, 37, 36, 35, 34, 33, 32, 31, 30, 29, 28, 27, 26, 25, 24, 23, 22, 21, 20, 19, 18, 17]) (
 .cond (.t 55) (sq (.reg [
 O 4 (.mov (.c (.b false)))] []) (
 .ret))
 (.skip)))) (
 .reg [
 O 15 (.mov (.t 5)),
 O 16 (.bin .add (.t 15) (.c (I 1))),
 O 5 (.mov (.t 16))] [16, 15]))
def F223 : PF := ⟨2, [.t 4],
 sq (.reg [
 O 4 (.mov (.c (.b false)))] [4]) (
 sq (sq (.reg [
 O 6 (.mov (.t 0)),
 O 7 (.len false (.t 6)),
 O 8 (.mov (.t 1)),
 O 9 (.len false (.t 8)),
 O 10 (.bin .neq (.t 7) (.t 9))] [9, 8, 7, 6]) (
 .cond (.t 10) (sq (.reg [
 O 4 (.mov (.c (.b false)))] []) (
 .ret))
 (.skip))) (
 sq (sq (.reg [
 O 5 (.mov (.c (I 0)))] []) (
 .block 0 (
 .loop [0, 1, 5] L223_0))) (
 sq (.reg [
 O 4 (.mov (.c (.b true)))] []) (
 .ret))))⟩
def L224_0 : PC :=
 sq (sq (.reg [
 O 84 (.mov (.t 5)),
 O 85 (.faddr 18 (.t 2)),
 O 86 (.load K0 (.t 85)),
 O 87 (.len false (.t 86)),
 O 88 (.bin .lss (.t 84) (.t 87))] [87, 86, 85, 84]) (
 .cond (.t 88) (.skip)
 (.exit 0))) (
 sq (.block 1 (
 sq (.regD [
 O 91 (.faddr 18 (.t 2)),
 O 92 (.load K0 (.t 91)),
 O 93 (.mov (.t 5)),
 O 94 (.iaddr (K1 6) (.t 92) (.t 93)),
 O 95 (.faddr 0 (.t 94)),
 O 96 (.load K0 (.t 95)),
 O 97 (.faddr 18 (.t 3)),
 O 98 (.load K0 (.t 97)),
 O 99 (.mov (.t 5)),
 O 100 (.iaddr (K1 6) (.t 98) (.t 99)),
 O 101 (.faddr 0 (.t 100)),
 O 102 (.load K0 (.t 101)),
 O 103 (.bin .neq (.t 96) (.t 102)),
 O 104 (.mov (.t 103)),
 OG 105 104 false (.faddr 18 (.t 2)),
 OG 106 104 false (.load K0 (.t 105)),
 OG 107 104 false (.mov (.t 5)),
 OG 108 104 false (.iaddr (K1 6) (.t 106) (.t 107)),
 OG 109 104 false (.faddr 1 (.t 108)),
 OG 110 104 false (.load K0 (.t 109)),
 OG 111 104 false (.faddr 18 (.t 3)),
 OG 112 104 false (.load K0 (.t 111)),
 OG 113 104 false (.mov (.t 5)),
 OG 114 104 false (.iaddr (K1 6) (.t 112) (.t 113)),
 OG 115 104 false (.faddr 1 (.t 114)),
 OG 116 104 false (.load K0 (.t 115)),
 OG 117 104 false (.bin .neq (.t 110) (.t 116)),
 O 118 (.pick (.t 104) (.c (.b true)) (.t 117)),
 O 119 (.mov (.t 118)),
 OG 120 119 false (.faddr 18 (.t 2)),
 OG 121 119 false (.load K0 (.t 120)),
 OG 122 119 false (.mov (.t 5)),
 OG 123 119 false (.iaddr (K1 6) (.t 121) (.t 122)),
 OG 124 119 false (.faddr 2 (.t 123)),
 OG 125 119 false (.load (K1 4) (.t 124)),
 OG 126 119 false (.faddr 18 (.t 3)),
 OG 127 119 false (.load K0 (.t 126)),
 OG 128 119 false (.mov (.t 5)),
 OG 129 119 false (.iaddr (K1 6) (.t 127) (.t 128)),
 OG 130 119 false (.faddr 2 (.t 129)),
 OG 131 119 false (.load (K1 4) (.t 130)),
 OG 132 119 false (.call 0 303 [(.t 125), (.t 131)]),
 OG 133 119 false (.un .not (.t 132)),
 O 134 (.pick (.t 119) (.c (.b true)) (.t 133))] [0, 1, 0, 7, 15, 31, 0, 64, 0, 448, 960, 1984, 4095, 8191, 16383, 32767, 16383, 131071, 262143, 524287, 16383, 1064959, 16383, 7356415, 15745023, 32522239, 67108863, 134217727, 268435455, 536870911, 1073741823, 536870911, 4294967295, 8589934591, 17179869183, 536870911, 34896609279, 536870911, 241055039487, 515932946431, 1065688760319, 2199023255551, 4398046511103, 8796093022207] [133, 132, 131, 130, 129, 128, 127, 126, 125, 124, 123, 122, 121, 120, 119, 118, 117, 116, 115, 114, 113, 112, 111, 110, 109, 108, 107, 106, 105, 104, 103, 102, 101, 100, 99, 98, 97, 96, 95, 94, 93, 92, 91]) (
 .cond (.t 134) (sq (.reg [
 O 4 (.mov (.c (.b false)))] []) (
 .ret))
 (.skip)))) (
 .reg [
 O 89 (.mov (.t 5)),
 O 90 (.bin .add (.t 89) (.c (I 1))),
 O 5 (.mov (.t 90))] [90, 89]))
def F224 : PF := ⟨2, [.t 4],
 sq (.reg [
 O 2 (.box (K1 19) (.t 0)),
 O 3 (.box (K1 19) (.t 1)),
 O 4 (.mov (.c (.b false)))] [4, 1, 0]) (
 sq (sq (.reg [
 O 6 (.faddr 0 (.t 2)),
 O 7 (.load K0 (.t 6)),
 O 8 (.faddr 0 (.t 3)),
 O 9 (.load K0 (.t 8)),
 O 10 (.bin .neq (.t 7) (.t 9)),
 O 11 (.mov (.t 10)),
 OG 12 11 false (.faddr 1 (.t 2)),
 OG 13 11 false (.load K0 (.t 12)),
 OG 14 11 false (.faddr 1 (.t 3)),
 OG 15 11 false (.load K0 (.t 14)),
 OG 16 11 false (.bin .neq (.t 13) (.t 15)),
 O 17 (.pick (.t 11) (.c (.b true)) (.t 16)),
 O 18 (.mov (.t 17)),
 OG 19 18 false (.faddr 2 (.t 2)),
 OG 20 18 false (.load K0 (.t 19)),
 OG 21 18 false (.faddr 2 (.t 3)),
 OG 22 18 false (.load K0 (.t 21)),
 OG 23 18 false (.bin .neq (.t 20) (.t 22)),
 O 24 (.pick (.t 18) (.c (.b true)) (.t 23)),
 O 25 (.mov (.t 24)),
 OG 26 25 false (.faddr 3 (.t 2)),
 OG 27 25 false (.load K0 (.t 26)),
 OG 28 25 false (.faddr 3 (.t 3)),
 OG 29 25 false (.load K0 (.t 28)),
 OG 30 25 false (.bin .neq (.t 27) (.t 29)),
 O 31 (.pick (.t 25) (.c (.b true)) (.t 30)),
 O 32 (.mov (.t 31)),
 OG 33 32 false (.faddr 4 (.t 2)),
 OG 34 32 false (.load K0 (.t 33)),
 OG 35 32 false (.faddr 4 (.t 3)),
 OG 36 32 false (.load K0 (.t 35)),
 OG 37 32 false (.bin .neq (.t 34) (.t 36)),
 O 38 (.pick (.t 32) (.c (.b true)) (.t 37)),
 O 39 (.mov (.t 38)),
 OG 40 39 false (.faddr 5 (.t 2)),
 OG 41 39 false (.load K0 (.t 40)),
 OG 42 39 false (.faddr 5 (.t 3)),
 OG 43 39 false (.load K0 (.t 42)),
 OG 44 39 false (.bin .neq (.t 41) (.t 43)),
 O 45 (.pick (.t 39) (.c (.b true)) (.t 44)),
 O 46 (.mov (.t 45)),
 OG 47 46 false (.faddr 6 (.t 2)),
 OG 48 46 false (.load K0 (.t 47)),
 OG 49 46 false (.faddr 6 (.t 3)),
 OG 50 46 false (.load K0 (.t 49)),
 OG 51 46 false (.bin .neq (.t 48) (.t 50)),
 O 52 (.pick (.t 46) (.c (.b true)) (.t 51))] [51, 50, 49, 48, 47, 46, 45, 44, 43, 42, 41, 40, 39, 38, 37, 36, 35, 34, 33, 32, 31, 30, 29, 28, 27, 26, 25, 24, 23, 22, 21, 20, 19, 18, 17, 16, 15, 14, 13, 12, 11, 10, 9, 8, 7, 6]) (
 .cond (.t 52) (sq (.reg [
 O 4 (.mov (.c (.b false)))] []) (
 .ret))
 (.skip))) (
 sq (sq (.reg [
 O 53 (.faddr 7 (.t 2)),
 O 54 (.load (K1 5) (.t 53)),
 O 55 (.faddr 7 (.t 3)),
 O 56 (.load (K1 5) (.t 55)),
 O 57 (.call 0 301 [(.t 54), (.t 56)]),
 O 58 (.un .not (.t 57)),
 O 59 (.mov (.t 58)),
 OG 60 59 false (.faddr 12 (.t 2)),
 OG 61 59 false (.load (K1 5) (.t 60)),
 OG 62 59 false (.faddr 12 (.t 3)),
 OG 63 59 false (.load (K1 5) (.t 62)),
 OG 64 59 false (.call 0 301 [(.t 61), (.t 63)]),
 OG 65 59 false (.un .not (.t 64)),
 O 66 (.pick (.t 59) (.c (.b true)) (.t 65)),
 O 67 (.mov (.t 66)),
 OG 68 67 false (.faddr 17 (.t 2)),
 OG 69 67 false (.load K0 (.t 68)),
 OG 70 67 false (.faddr 17 (.t 3)),
 OG 71 67 false (.load K0 (.t 70)),
 OG 72 67 false (.call 0 302 [(.t 69), (.t 71)]),
 OG 73 67 false (.un .not (.t 72)),
 O 74 (.pick (.t 67) (.c (.b true)) (.t 73)),
 O 75 (.mov (.t 74)),
 OG 76 75 false (.faddr 18 (.t 2)),
 OG 77 75 false (.load K0 (.t 76)),
 OG 78 75 false (.len false (.t 77)),
 OG 79 75 false (.faddr 18 (.t 3)),
 OG 80 75 false (.load K0 (.t 79)),
 OG 81 75 false (.len false (.t 80)),
 OG 82 75 false (.bin .neq (.t 78) (.t 81)),
 O 83 (.pick (.t 75) (.c (.b true)) (.t 82))] [82, 81, 80, 79, 78, 77, 76, 75, 74, 73, 72, 71, 70, 69, 68, 67, 66, 65, 64, 63, 62, 61, 60, 59, 58, 57, 56, 55, 54, 53]) (
 .cond (.t 83) (sq (.reg [
 O 4 (.mov (.c (.b false)))] []) (
 .ret))
 (.skip))) (
 sq (sq (.reg [
 O 5 (.mov (.c (I 0)))] []) (
 .block 0 (
 .loop [2, 3, 5] L224_0))) (
 sq (.reg [
 O 4 (.mov (.c (.b true)))] []) (
 .ret)))))⟩
def L292_0 : PC :=
 sq (.reg [
 O 14 (.bin .lss (.t 13) (.t 12))] []) (
 sq (.cond (.t 14) (.skip)
 (.exit 0)) (
 sq (.block 1 (
 sq (.reg [
 O 15 (.mov (.t 13)),
 O 5 (.mov (.t 15))] [15]) (
 sq (.regD [
 O 16 (.mov (.t 0)),
 O 17 (.mov (.t 5)),
 O 18 (.iaddr K0 (.t 16) (.t 17)),
 O 19 (.load K0 (.t 18)),
 O 20 (.mov (.t 1)),
 O 21 (.mov (.t 5)),
 O 22 (.iaddr K0 (.t 20) (.t 21)),
 O 23 (.load K0 (.t 22)),
 O 24 (.bin .neq (.t 19) (.t 23))] [0, 0, 3, 7, 0, 0, 48, 112, 255] [23, 22, 21, 20, 19, 18, 5, 17, 16]) (
 .cond (.t 24) (sq (.reg [
 O 4 (.mov (.c (.b false)))] []) (
 .ret))
 (.skip))))) (
 .reg [
 O 25 (.bin .add (.t 13) (.c (I 1))),
 O 13 (.mov (.t 25))] [25])))
def F292 : PF := ⟨2, [.t 4],
 sq (.reg [
 O 4 (.mov (.c (.b false)))] [4]) (
 sq (sq (.reg [
 O 6 (.mov (.t 0)),
 O 7 (.len false (.t 6)),
 O 8 (.mov (.t 1)),
 O 9 (.len false (.t 8)),
 O 10 (.bin .neq (.t 7) (.t 9))] [9, 8, 7, 6]) (
 .cond (.t 10) (sq (.reg [
 O 4 (.mov (.c (.b false)))] []) (
 .ret))
 (.skip))) (
 sq (sq (.reg [
 O 11 (.mov (.t 0)),
 O 12 (.len false (.t 11)),
 O 13 (.mov (.c (I 0)))] [11]) (
 .block 0 (
 .loop [0, 1, 12, 13] L292_0))) (
 sq (.reg [
 O 4 (.mov (.c (.b true)))] []) (
 .ret))))⟩
def L293_0 : PC :=
 sq (.reg [
 O 17 (.bin .lss (.t 16) (.t 15))] []) (
 sq (.cond (.t 17) (.skip)
 (.exit 0)) (
 sq (.block 1 (
 sq (.reg [
 O 18 (.mov (.t 16)),
 O 5 (.mov (.t 18))] [18]) (
 sq (.regD [
 O 19 (.faddr 0 (.t 2)),
 O 20 (.load K0 (.t 19)),
 O 21 (.mov (.t 5)),
 O 22 (.iaddr (K1 2) (.t 20) (.t 21)),
 O 23 (.load (K1 2) (.t 22)),
 O 24 (.faddr 0 (.t 3)),
 O 25 (.load K0 (.t 24)),
 O 26 (.mov (.t 5)),
 O 27 (.iaddr (K1 2) (.t 25) (.t 26)),
 O 28 (.load (K1 2) (.t 27)),
 O 29 (.eqv true [1, 1] (.t 23) (.t 28))] [0, 1, 0, 7, 15, 0, 32, 0, 224, 480, 1023] [28, 27, 26, 25, 24, 23, 22, 5, 21, 20, 19]) (
 .cond (.t 29) (sq (.reg [
 O 4 (.mov (.c (.b false)))] []) (
 .ret))
 (.skip))))) (
 .reg [
 O 30 (.bin .add (.t 16) (.c (I 1))),
 O 16 (.mov (.t 30))] [30])))
def F293 : PF := ⟨2, [.t 4],
 sq (.reg [
 O 2 (.box (K1 5) (.t 0)),
 O 3 (.box (K1 5) (.t 1)),
 O 4 (.mov (.c (.b false)))] [4, 1, 0]) (
 sq (sq (.reg [
 O 6 (.faddr 0 (.t 2)),
 O 7 (.load K0 (.t 6)),
 O 8 (.len false (.t 7)),
 O 9 (.faddr 0 (.t 3)),
 O 10 (.load K0 (.t 9)),
 O 11 (.len false (.t 10)),
 O 12 (.bin .neq (.t 8) (.t 11))] [11, 10, 9, 8, 7, 6]) (
 .cond (.t 12) (sq (.reg [
 O 4 (.mov (.c (.b false)))] []) (
 .ret))
 (.skip))) (
 sq (sq (.reg [
 O 13 (.faddr 0 (.t 2)),
 O 14 (.load K0 (.t 13)),
 O 15 (.len false (.t 14)),
 O 16 (.mov (.c (I 0)))] [14, 13]) (
 .block 0 (
 .loop [2, 3, 15, 16] L293_0))) (
 sq (.reg [
 O 31 (.faddr 1 (.t 2)),
 O 32 (.load K0 (.t 31)),
 O 33 (.faddr 1 (.t 3)),
 O 34 (.load K0 (.t 33)),
 O 35 (.eqb false (.t 32) (.t 34)),
 O 36 (.mov (.t 35)),
 OG 37 36 true (.faddr 2 (.t 2)),
 OG 38 36 true (.load K0 (.t 37)),
 OG 39 36 true (.faddr 2 (.t 3)),
 OG 40 36 true (.load K0 (.t 39)),
 OG 41 36 true (.bin .eql (.t 38) (.t 40)),
 O 42 (.pick (.t 36) (.t 41) (.c (.b false))),
 O 43 (.mov (.t 42)),
 OG 44 43 true (.faddr 3 (.t 2)),
 OG 45 43 true (.load K0 (.t 44)),
 OG 46 43 true (.faddr 3 (.t 3)),
 OG 47 43 true (.load K0 (.t 46)),
 OG 48 43 true (.bin .eql (.t 45) (.t 47)),
 O 49 (.pick (.t 43) (.t 48) (.c (.b false))),
 O 50 (.mov (.t 49)),
 OG 51 50 true (.faddr 4 (.t 2)),
 OG 52 50 true (.load K0 (.t 51)),
 OG 53 50 true (.faddr 4 (.t 3)),
 OG 54 50 true (.load K0 (.t 53)),
 OG 55 50 true (.eqb false (.t 52) (.t 54)),
 O 56 (.pick (.t 50) (.t 55) (.c (.b false))),
 O 4 (.mov (.t 56))] [56, 55, 54, 53, 52, 51, 50, 49, 48, 47, 46, 45, 44, 43, 42, 41, 40, 39, 38, 37, 36, 35, 34, 3, 33, 32, 2, 31]) (
 .ret))))⟩
def L294_0 : PC :=
 sq (.reg [
 O 18 (.bin .lss (.t 17) (.t 16))] []) (
 sq (.cond (.t 18) (.skip)
 (.exit 0)) (
 sq (.block 1 (
 sq (.reg [
 O 19 (.mov (.t 17)),
 O 20 (.iaddr (K1 10) (.t 15) (.t 17)),
 O 21 (.load (K1 10) (.t 20)),
 O 8 (.alloc (K1 10) (.a [(.s []), (I 0), (I 0), (I 0), (.s []), (.l (K1 4) [] true), (I 0), (I 0), (.s []), (.l (K1 4) [] true)])),
 O 7 (.mov (.t 19)),
 E (.store (K1 10) (.t 8) (.t 21))] [21, 20, 19]) (
 sq (.reg [
 O 22 (.mov (.t 1)),
 O 23 (.mov (.t 7)),
 O 24 (.iaddr (K1 10) (.t 22) (.t 23)),
 O 25 (.load (K1 10) (.t 24)),
 O 9 (.alloc (K1 10) (.a [(.s []), (I 0), (I 0), (I 0), (.s []), (.l (K1 4) [] true), (I 0), (I 0), (.s []), (.l (K1 4) [] true)])),
 E (.store (K1 10) (.t 9) (.t 25))] [25, 24, 7, 23, 22]) (
 sq (.reg [
 O 26 (.mov (.t 2)),
 O 27 (.load (K1 10) (.t 8)),
 O 28 (.load (K1 10) (.t 9)),
 O 29 (.callv (.t 26) [(.t 27), (.t 28)]),
 O 30 (.un .not (.t 29))] [29, 9, 28, 8, 27, 26]) (
 .cond (.t 30) (sq (.reg [
 O 6 (.mov (.c (.b false)))] []) (
 .ret))
 (.skip)))))) (
 .reg [
 O 31 (.bin .add (.t 17) (.c (I 1))),
 O 17 (.mov (.t 31))] [31])))
def F294 : PF := ⟨3, [.t 6],
 sq (.reg [
 O 6 (.mov (.c (.b false)))] [6]) (
 sq (sq (.reg [
 O 10 (.mov (.t 0)),
 O 11 (.len false (.t 10)),
 O 12 (.mov (.t 1)),
 O 13 (.len false (.t 12)),
 O 14 (.bin .neq (.t 11) (.t 13))] [13, 12, 11, 10]) (
 .cond (.t 14) (sq (.reg [
 O 6 (.mov (.c (.b false)))] []) (
 .ret))
 (.skip))) (
 sq (sq (.reg [
 O 15 (.mov (.t 0)),
 O 16 (.len false (.t 15)),
 O 17 (.mov (.c (I 0)))] [0]) (
 .block 0 (
 .loop [1, 2, 15, 16, 17] L294_0))) (
 sq (.reg [
 O 6 (.mov (.c (.b true)))] []) (
 .ret))))⟩
def F295 : PF := ⟨2, [.t 4],
 sq (.reg [
 O 2 (.box (K1 10) (.t 0)),
 O 3 (.box (K1 10) (.t 1)),
 O 4 (.mov (.c (.b false)))] [4, 1, 0]) (
 sq (.reg [
 O 5 (.faddr 0 (.t 2)),
 O 6 (.load K0 (.t 5)),
 O 7 (.faddr 0 (.t 3)),
 O 8 (.load K0 (.t 7)),
 O 9 (.bin .eql (.t 6) (.t 8)),
 O 10 (.mov (.t 9)),
 OG 11 10 true (.faddr 1 (.t 2)),
 OG 12 10 true (.load K0 (.t 11)),
 OG 13 10 true (.faddr 1 (.t 3)),
 OG 14 10 true (.load K0 (.t 13)),
 OG 15 10 true (.bin .eql (.t 12) (.t 14)),
 O 16 (.pick (.t 10) (.t 15) (.c (.b false))),
 O 17 (.mov (.t 16)),
 OG 18 17 true (.faddr 2 (.t 2)),
 OG 19 17 true (.load (K1 4) (.t 18)),
 OG 20 17 true (.faddr 2 (.t 3)),
 OG 21 17 true (.load (K1 4) (.t 20)),
 OG 22 17 true (.call 0 296 [(.t 19), (.t 21)]),
 O 23 (.pick (.t 17) (.t 22) (.c (.b false))),
 O 24 (.mov (.t 23)),
 OG 25 24 true (.faddr 6 (.t 2)),
 OG 26 24 true (.load (K1 4) (.t 25)),
 OG 27 24 true (.faddr 6 (.t 3)),
 OG 28 24 true (.load (K1 4) (.t 27)),
 OG 29 24 true (.call 0 296 [(.t 26), (.t 28)]),
 O 30 (.pick (.t 24) (.t 29) (.c (.b false))),
 O 4 (.mov (.t 30))] [30, 29, 28, 27, 26, 25, 24, 23, 22, 21, 20, 19, 18, 17, 16, 15, 14, 13, 12, 11, 10, 9, 8, 3, 7, 6, 2, 5]) (
 .ret))⟩
def F296 : PF := ⟨2, [.t 4],
 sq (.reg [
 O 2 (.box (K1 4) (.t 0)),
 O 3 (.box (K1 4) (.t 1)),
 O 4 (.mov (.c (.b false)))] [4, 1, 0]) (
 sq (.reg [
 O 5 (.faddr 0 (.t 2)),
 O 6 (.load K0 (.t 5)),
 O 7 (.faddr 0 (.t 3)),
 O 8 (.load K0 (.t 7)),
 O 9 (.bin .eql (.t 6) (.t 8)),
 O 10 (.mov (.t 9)),
 OG 11 10 true (.faddr 1 (.t 2)),
 OG 12 10 true (.load K0 (.t 11)),
 OG 13 10 true (.faddr 1 (.t 3)),
 OG 14 10 true (.load K0 (.t 13)),
 OG 15 10 true (.bin .eql (.t 12) (.t 14)),
 O 16 (.pick (.t 10) (.t 15) (.c (.b false))),
 O 17 (.mov (.t 16)),
 OG 18 17 true (.faddr 2 (.t 2)),
 OG 19 17 true (.load K0 (.t 18)),
 OG 20 17 true (.faddr 2 (.t 3)),
 OG 21 17 true (.load K0 (.t 20)),
 OG 22 17 true (.bin .eql (.t 19) (.t 21)),
 O 23 (.pick (.t 17) (.t 22) (.c (.b false))),
 O 24 (.mov (.t 23)),
 OG 25 24 true (.faddr 3 (.t 2)),
 OG 26 24 true (.load K0 (.t 25)),
 OG 27 24 true (.faddr 3 (.t 3)),
 OG 28 24 true (.load K0 (.t 27)),
 OG 29 24 true (.call 2 364 [(.t 26), (.t 28), (.f 296)]),
 O 30 (.pick (.t 24) (.t 29) (.c (.b false))),
 O 4 (.mov (.t 30))] [30, 29, 28, 27, 26, 25, 24, 23, 22, 21, 20, 19, 18, 17, 16, 15, 14, 13, 12, 11, 10, 9, 8, 3, 7, 6, 2, 5]) (
 .ret))⟩
def L297_0 : PC :=
 sq (.reg [
 O 18 (.bin .lss (.t 17) (.t 16))] []) (
 sq (.cond (.t 18) (.skip)
 (.exit 0)) (
 sq (.block 1 (
 sq (.reg [
 O 19 (.mov (.t 17)),
 O 20 (.iaddr (K1 6) (.t 15) (.t 17)),
 O 21 (.load (K1 6) (.t 20)),
 O 8 (.alloc (K1 6) (.a [(.s []), (I 0), (I 0), (I 0), (.s []), (.l (K1 4) [] true)])),
 O 7 (.mov (.t 19)),
 E (.store (K1 6) (.t 8) (.t 21))] [21, 20, 19]) (
 sq (.reg [
 O 22 (.mov (.t 1)),
 O 23 (.mov (.t 7)),
 O 24 (.iaddr (K1 6) (.t 22) (.t 23)),
 O 25 (.load (K1 6) (.t 24)),
 O 9 (.alloc (K1 6) (.a [(.s []), (I 0), (I 0), (I 0), (.s []), (.l (K1 4) [] true)])),
 E (.store (K1 6) (.t 9) (.t 25))] [25, 24, 7, 23, 22]) (
 sq (.reg [
 O 26 (.mov (.t 2)),
 O 27 (.load (K1 6) (.t 8)),
 O 28 (.load (K1 6) (.t 9)),
 O 29 (.callv (.t 26) [(.t 27), (.t 28)]),
 O 30 (.un .not (.t 29))] [29, 9, 28, 8, 27, 26]) (
 .cond (.t 30) (sq (.reg [
 O 6 (.mov (.c (.b false)))] []) (
 .ret))
 (.skip)))))) (
 .reg [
 O 31 (.bin .add (.t 17) (.c (I 1))),
 O 17 (.mov (.t 31))] [31])))
def F297 : PF := ⟨3, [.t 6],
 sq (.reg [
 O 6 (.mov (.c (.b false)))] [6]) (
 sq (sq (.reg [
 O 10 (.mov (.t 0)),
 O 11 (.len false (.t 10)),
 O 12 (.mov (.t 1)),
 O 13 (.len false (.t 12)),
 O 14 (.bin .neq (.t 11) (.t 13))] [13, 12, 11, 10]) (
 .cond (.t 14) (sq (.reg [
 O 6 (.mov (.c (.b false)))] []) (
 .ret))
 (.skip))) (
 sq (sq (.reg [
 O 15 (.mov (.t 0)),
 O 16 (.len false (.t 15)),
 O 17 (.mov (.c (I 0)))] [0]) (
 .block 0 (
 .loop [1, 2, 15, 16, 17] L297_0))) (
 sq (.reg [
 O 6 (.mov (.c (.b true)))] []) (
 .ret))))⟩
def F298 : PF := ⟨2, [.t 4],
 sq (.reg [
 O 2 (.box (K1 6) (.t 0)),
 O 3 (.box (K1 6) (.t 1)),
 O 4 (.mov (.c (.b false)))] [4, 1, 0]) (
 sq (.reg [
 O 5 (.faddr 0 (.t 2)),
 O 6 (.load K0 (.t 5)),
 O 7 (.faddr 0 (.t 3)),
 O 8 (.load K0 (.t 7)),
 O 9 (.bin .eql (.t 6) (.t 8)),
 O 10 (.mov (.t 9)),
 OG 11 10 true (.faddr 1 (.t 2)),
 OG 12 10 true (.load K0 (.t 11)),
 OG 13 10 true (.faddr 1 (.t 3)),
 OG 14 10 true (.load K0 (.t 13)),
 OG 15 10 true (.bin .eql (.t 12) (.t 14)),
 O 16 (.pick (.t 10) (.t 15) (.c (.b false))),
 O 17 (.mov (.t 16)),
 OG 18 17 true (.faddr 2 (.t 2)),
 OG 19 17 true (.load (K1 4) (.t 18)),
 OG 20 17 true (.faddr 2 (.t 3)),
 OG 21 17 true (.load (K1 4) (.t 20)),
 OG 22 17 true (.call 0 296 [(.t 19), (.t 21)]),
 O 23 (.pick (.t 17) (.t 22) (.c (.b false))),
 O 4 (.mov (.t 23))] [23, 22, 21, 20, 19, 18, 17, 16, 15, 14, 13, 12, 11, 10, 9, 8, 3, 7, 6, 2, 5]) (
 .ret))⟩
def L299_0 : PC :=
 sq (.reg [
 O 14 (.bin .lss (.t 13) (.t 12))] []) (
 sq (.cond (.t 14) (.skip)
 (.exit 0)) (
 sq (.block 1 (
 sq (.reg [
 O 15 (.mov (.t 13)),
 O 5 (.mov (.t 15))] [15]) (
 sq (.regD [
 O 16 (.mov (.t 0)),
 O 17 (.mov (.t 5)),
 O 18 (.iaddr (K1 3) (.t 16) (.t 17)),
 O 19 (.load (K1 3) (.t 18)),
 O 20 (.mov (.t 1)),
 O 21 (.mov (.t 5)),
 O 22 (.iaddr (K1 3) (.t 20) (.t 21)),
 O 23 (.load (K1 3) (.t 22)),
 O 24 (.eqv true [1, 1, 3] (.t 19) (.t 23))] [0, 0, 3, 7, 0, 0, 48, 112, 255] [23, 22, 21, 20, 19, 18, 5, 17, 16]) (
 .cond (.t 24) (sq (.reg [
 O 4 (.mov (.c (.b false)))] []) (
 .ret))
 (.skip))))) (
 .reg [
 O 25 (.bin .add (.t 13) (.c (I 1))),
 O 13 (.mov (.t 25))] [25])))
def F299 : PF := ⟨2, [.t 4],
 sq (.reg [
 O 4 (.mov (.c (.b false)))] [4]) (
 sq (sq (.reg [
 O 6 (.mov (.t 0)),
 O 7 (.len false (.t 6)),
 O 8 (.mov (.t 1)),
 O 9 (.len false (.t 8)),
 O 10 (.bin .neq (.t 7) (.t 9))] [9, 8, 7, 6]) (
 .cond (.t 10) (sq (.reg [
 O 4 (.mov (.c (.b false)))] []) (
 .ret))
 (.skip))) (
 sq (sq (.reg [
 O 11 (.mov (.t 0)),
 O 12 (.len false (.t 11)),
 O 13 (.mov (.c (I 0)))] [11]) (
 .block 0 (
 .loop [0, 1, 12, 13] L299_0))) (
 sq (.reg [
 O 4 (.mov (.c (.b true)))] []) (
 .ret))))⟩
def L300_0 : PC :=
 sq (sq (.reg [
 O 11 (.mov (.t 5)),
 O 12 (.mov (.t 0)),
 O 13 (.len false (.t 12)),
 O 14 (.bin .lss (.t 11) (.t 13))] [13, 12, 11]) (
 .cond (.t 14) (.skip)
 (.exit 0))) (
 sq (.block 1 (
 sq (.regD [
 O 17 (.mov (.t 0)),
 O 18 (.mov (.t 5)),
 O 19 (.iaddr K0 (.t 17) (.t 18)),
 O 20 (.load K0 (.t 19)),
 O 21 (.mov (.t 1)),
 O 22 (.mov (.t 5)),
 O 23 (.iaddr K0 (.t 21) (.t 22)),
 O 24 (.load K0 (.t 23)),
 O 25 (.bin .neq (.t 20) (.t 24))] [0, 0, 3, 7, 0, 0, 48, 112, 255] [24, 23, 22, 21, 20, 19, 18, 17]) (
 .cond (.t 25) (sq (.reg [
 O 4 (.mov (.c (.b false)))] []) (
 .ret))
 (.skip)))) (
 .reg [
 O 15 (.mov (.t 5)),
 O 16 (.bin .add (.t 15) (.c (I 1))),
 O 5 (.mov (.t 16))] [16, 15]))
def F300 : PF := ⟨2, [.t 4],
 sq (.reg [
 O 4 (.mov (.c (.b false)))] [4]) (
 sq (sq (.reg [
 O 6 (.mov (.t 0)),
 O 7 (.len false (.t 6)),
 O 8 (.mov (.t 1)),
 O 9 (.len false (.t 8)),
 O 10 (.bin .neq (.t 7) (.t 9))] [9, 8, 7, 6]) (
 .cond (.t 10) (sq (.reg [
 O 4 (.mov (.c (.b false)))] []) (
 .ret))
 (.skip))) (
 sq (sq (.reg [
 O 5 (.mov (.c (I 0)))] []) (
 .block 0 (
 .loop [0, 1, 5] L300_0))) (
 sq (.reg [
 O 4 (.mov (.c (.b true)))] []) (
 .ret))))⟩
def L301_0 : PC :=
 sq (sq (.reg [
 O 41 (.mov (.t 5)),
 O 42 (.faddr 0 (.t 2)),
 O 43 (.load K0 (.t 42)),
 O 44 (.len false (.t 43)),
 O 45 (.bin .lss (.t 41) (.t 44))] [44, 43, 42, 41]) (
 .cond (.t 45) (.skip)
 (.exit 0))) (
 sq (.block 1 (
 sq (.regD [
 O 48 (.faddr 0 (.t 2)),
 O 49 (.load K0 (.t 48)),
 O 50 (.mov (.t 5)),
 O 51 (.iaddr (K1 2) (.t 49) (.t 50)),
 O 52 (.load (K1 2) (.t 51)),
 O 53 (.faddr 0 (.t 3)),
 O 54 (.load K0 (.t 53)),
 O 55 (.mov (.t 5)),
 O 56 (.iaddr (K1 2) (.t 54) (.t 55)),
 O 57 (.load (K1 2) (.t 56)),
 O 58 (.eqv true [1, 1] (.t 52) (.t 57))] [0, 1, 0, 7, 15, 0, 32, 0, 224, 480, 1023] [57, 56, 55, 54, 53, 52, 51, 50, 49, 48]) (
 .cond (.t 58) (sq (.reg [
 O 4 (.mov (.c (.b false)))] []) (
 .ret))
 (.skip)))) (
 .reg [
 O 46 (.mov (.t 5)),
 O 47 (.bin .add (.t 46) (.c (I 1))),
 O 5 (.mov (.t 47))] [47, 46]))
def F301 : PF := ⟨2, [.t 4],
 sq (.reg [
 O 2 (.box (K1 5) (.t 0)),
 O 3 (.box (K1 5) (.t 1)),
 O 4 (.mov (.c (.b false)))] [4, 1, 0]) (
 sq (sq (.reg [
 O 6 (.faddr 0 (.t 2)),
 O 7 (.load K0 (.t 6)),
 O 8 (.len false (.t 7)),
 O 9 (.faddr 0 (.t 3)),
 O 10 (.load K0 (.t 9)),
 O 11 (.len false (.t 10)),
 O 12 (.bin .neq (.t 8) (.t 11)),
 O 13 (.mov (.t 12)),
 OG 14 13 false (.faddr 1 (.t 2)),
 OG 15 13 false (.load K0 (.t 14)),
 OG 16 13 false (.faddr 1 (.t 3)),
 OG 17 13 false (.load K0 (.t 16)),
 OG 18 13 false (.eqb true (.t 15) (.t 17)),
 O 19 (.pick (.t 13) (.c (.b true)) (.t 18)),
 O 20 (.mov (.t 19)),
 OG 21 20 false (.faddr 2 (.t 2)),
 OG 22 20 false (.load K0 (.t 21)),
 OG 23 20 false (.faddr 2 (.t 3)),
 OG 24 20 false (.load K0 (.t 23)),
 OG 25 20 false (.bin .neq (.t 22) (.t 24)),
 O 26 (.pick (.t 20) (.c (.b true)) (.t 25)),
 O 27 (.mov (.t 26)),
 OG 28 27 false (.faddr 3 (.t 2)),
 OG 29 27 false (.load K0 (.t 28)),
 OG 30 27 false (.faddr 3 (.t 3)),
 OG 31 27 false (.load K0 (.t 30)),
 OG 32 27 false (.bin .neq (.t 29) (.t 31)),
 O 33 (.pick (.t 27) (.c (.b true)) (.t 32)),
 O 34 (.mov (.t 33)),
 OG 35 34 false (.faddr 4 (.t 2)),
 OG 36 34 false (.load K0 (.t 35)),
 OG 37 34 false (.faddr 4 (.t 3)),
 OG 38 34 false (.load K0 (.t 37)),
 OG 39 34 false (.eqb true (.t 36) (.t 38)),
 O 40 (.pick (.t 34) (.c (.b true)) (.t 39))] [39, 38, 37, 36, 35, 34, 33, 32, 31, 30, 29, 28, 27, 26, 25, 24, 23, 22, 21, 20, 19, 18, 17, 16, 15, 14, 13, 12, 11, 10, 9, 8, 7, 6]) (
 .cond (.t 40) (sq (.reg [
 O 4 (.mov (.c (.b false)))] []) (
 .ret))
 (.skip))) (
 sq (sq (.reg [
 O 5 (.mov (.c (I 0)))] []) (
 .block 0 (
 .loop [2, 3, 5] L301_0))) (
 sq (.reg [
 O 4 (.mov (.c (.b true)))] []) (
 .ret))))⟩
def L302_0 : PC :=
 sq (sq (.reg [
 O 11 (.mov (.t 5)),
 O 12 (.mov (.t 0)),
 O 13 (.len false (.t 12)),
 O 14 (.bin .lss (.t 11) (.t 13))] [13, 12, 11]) (
 .cond (.t 14) (.skip)
 (.exit 0))) (
 sq (.block 1 (
 sq (.regD [
 O 17 (.mov (.t 0)),
 O 18 (.mov (.t 5)),
 O 19 (.iaddr (K1 10) (.t 17) (.t 18)),
 O 20 (.faddr 0 (.t 19)),
 O 21 (.load K0 (.t 20)),
 O 22 (.mov (.t 1)),
 O 23 (.mov (.t 5)),
 O 24 (.iaddr (K1 10) (.t 22) (.t 23)),
 O 25 (.faddr 0 (.t 24)),
 O 26 (.load K0 (.t 25)),
 O 27 (.bin .neq (.t 21) (.t 26)),
 O 28 (.mov (.t 27)),
 OG 29 28 false (.mov (.t 0)),
 OG 30 28 false (.mov (.t 5)),
 OG 31 28 false (.iaddr (K1 10) (.t 29) (.t 30)),
 OG 32 28 false (.faddr 1 (.t 31)),
 OG 33 28 false (.load K0 (.t 32)),
 OG 34 28 false (.mov (.t 1)),
 OG 35 28 false (.mov (.t 5)),
 OG 36 28 false (.iaddr (K1 10) (.t 34) (.t 35)),
 OG 37 28 false (.faddr 1 (.t 36)),
 OG 38 28 false (.load K0 (.t 37)),
 OG 39 28 false (.bin .neq (.t 33) (.t 38)),
 O 40 (.pick (.t 28) (.c (.b true)) (.t 39)),
 O 41 (.mov (.t 40)),
 OG 42 41 false (.mov (.t 0)),
 OG 43 41 false (.mov (.t 5)),
 OG 44 41 false (.iaddr (K1 10) (.t 42) (.t 43)),
 OG 45 41 false (.faddr 2 (.t 44)),
 OG 46 41 false (.load (K1 4) (.t 45)),
 OG 47 41 false (.mov (.t 1)),
 OG 48 41 false (.mov (.t 5)),
 OG 49 41 false (.iaddr (K1 10) (.t 47) (.t 48)),
 OG 50 41 false (.faddr 2 (.t 49)),
 OG 51 41 false (.load (K1 4) (.t 50)),
 OG 52 41 false (.call 0 303 [(.t 46), (.t 51)]),
 OG 53 41 false (.un .not (.t 52)),
 O 54 (.pick (.t 41) (.c (.b true)) (.t 53)),
 O 55 (.mov (.t 54)),
 OG 56 55 false (.mov (.t 0)),
 OG 57 55 false (.mov (.t 5)),
 OG 58 55 false (.iaddr (K1 10) (.t 56) (.t 57)),
 OG 59 55 false (.faddr 6 (.t 58)),
 OG 60 55 false (.load (K1 4) (.t 59)),
 OG 61 55 false (.mov (.t 1)),
 OG 62 55 false (.mov (.t 5)),
 OG 63 55 false (.iaddr (K1 10) (.t 61) (.t 62)),
 OG 64 55 false (.faddr 6 (.t 63)),
 OG 65 55 false (.load (K1 4) (.t 64)),
 OG 66 55 false (.call 0 303 [(.t 60), (.t 65)]),
 OG 67 55 false (.un .not (.t 66)),
 O 68 (.pick (.t 55) (.c (.b true)) (.t 67))] [0, 0, 3, 7, 15, 0, 0, 96, 224, 480, 1023, 2047, 4095, 4095, 16383, 32767, 65535, 4095, 4095, 397311, 921599, 1970175, 4194303, 8388607, 16777215, 33554431, 33554431, 134217727, 268435455, 536870911, 33554431, 33554431, 3254779903, 7549747199, 16139681791, 34359738367, 68719476735, 137438953471, 274877906943, 549755813887, 549755813887, 2199023255551, 4398046511103, 8796093022207, 549755813887, 549755813887, 53326313947135, 123695058124799, 264432546480127, 562949953421311, 1125899906842623, 2251799813685247] [67, 66, 65, 64, 63, 62, 61, 60, 59, 58, 57, 56, 55, 54, 53, 52, 51, 50, 49, 48, 47, 46, 45, 44, 43, 42, 41, 40, 39, 38, 37, 36, 35, 34, 33, 32, 31, 30, 29, 28, 27, 26, 25, 24, 23, 22, 21, 20, 19, 18, 17]) (
 .cond (.t 68) (sq (.reg [
 O 4 (.mov (.c (.b false)))] []) (
 .ret))
 (.skip)))) (
 .reg [
 O 15 (.mov (.t 5)),
 O 16 (.bin .add (.t 15) (.c (I 1))),
 O 5 (.mov (.t 16))] [16, 15]))
def F302 : PF := ⟨2, [.t 4],
 sq (.reg [
 O 4 (.mov (.c (.b false)))] [4]) (
 sq (sq (.reg [
 O 6 (.mov (.t 0)),
 O 7 (.len false (.t 6)),
 O 8 (.mov (.t 1)),
 O 9 (.len false (.t 8)),
 O 10 (.bin .neq (.t 7) (.t 9))] [9, 8, 7, 6]) (
 .cond (.t 10) (sq (.reg [
 O 4 (.mov (.c (.b false)))] []) (
 .ret))
 (.skip))) (
 sq (sq (.reg [
 O 5 (.mov (.c (I 0)))] []) (
 .block 0 (
 .loop [0, 1, 5] L302_0))) (
 sq (.reg [
 O 4 (.mov (.c (.b true)))] []) (
 .ret))))⟩
def L303_0 : PC :=
 sq (sq (.reg [
 O 34 (.mov (.t 5)),
 O 35 (.faddr 3 (.t 2)),
 O 36 (.load K0 (.t 35)),
 O 37 (.len false (.t 36)),
 O 38 (.bin .lss (.t 34) (.t 37))] [37, 36, 35, 34]) (
 .cond (.t 38) (.skip)
 (.exit 0))) (
 sq (.block 1 (
 sq (.regD [
 O 41 (.faddr 3 (.t 2)),
 O 42 (.load K0 (.t 41)),
 O 43 (.mov (.t 5)),
 O 44 (.iaddr (K1 4) (.t 42) (.t 43)),
 O 45 (.load (K1 4) (.t 44)),
 O 46 (.faddr 3 (.t 3)),
 O 47 (.load K0 (.t 46)),
 O 48 (.mov (.t 5)),
 O 49 (.iaddr (K1 4) (.t 47) (.t 48)),
 O 50 (.load (K1 4) (.t 49)),
 O 51 (.call 0 303 [(.t 45), (.t 50)]),
 O 52 (.un .not (.t 51))] [0, 1, 0, 7, 15, 0, 32, 0, 224, 480, 1023, 2047] [51, 50, 49, 48, 47, 46, 45, 44, 43, 42, 41]) (
 .cond (.t 52) (sq (.reg [
 O 4 (.mov (.c (.b false)))] []) (
 .ret))
 (.skip)))) (
 .reg [
 O 39 (.mov (.t 5)),
 O 40 (.bin .add (.t 39) (.c (I 1))),
 O 5 (.mov (.t 40))] [40, 39]))
def F303 : PF := ⟨2, [.t 4],
 sq (.reg [
 O 2 (.box (K1 4) (.t 0)),
 O 3 (.box (K1 4) (.t 1)),
 O 4 (.mov (.c (.b false)))] [4, 1, 0]) (
 sq (sq (.reg [
 O 6 (.faddr 0 (.t 2)),
 O 7 (.load K0 (.t 6)),
 O 8 (.faddr 0 (.t 3)),
 O 9 (.load K0 (.t 8)),
 O 10 (.bin .neq (.t 7) (.t 9)),
 O 11 (.mov (.t 10)),
 OG 12 11 false (.faddr 1 (.t 2)),
 OG 13 11 false (.load K0 (.t 12)),
 OG 14 11 false (.faddr 1 (.t 3)),
 OG 15 11 false (.load K0 (.t 14)),
 OG 16 11 false (.bin .neq (.t 13) (.t 15)),
 O 17 (.pick (.t 11) (.c (.b true)) (.t 16)),
 O 18 (.mov (.t 17)),
 OG 19 18 false (.faddr 2 (.t 2)),
 OG 20 18 false (.load K0 (.t 19)),
 OG 21 18 false (.faddr 2 (.t 3)),
 OG 22 18 false (.load K0 (.t 21)),
 OG 23 18 false (.bin .neq (.t 20) (.t 22)),
 O 24 (.pick (.t 18) (.c (.b true)) (.t 23)),
 O 25 (.mov (.t 24)),
 OG 26 25 false (.faddr 3 (.t 2)),
 OG 27 25 false (.load K0 (.t 26)),
 OG 28 25 false (.len false (.t 27)),
 OG 29 25 false (.faddr 3 (.t 3)),
 OG 30 25 false (.load K0 (.t 29)),
 OG 31 25 false (.len false (.t 30)),
 OG 32 25 false (.bin .neq (.t 28) (.t 31)),
 O 33 (.pick (.t 25) (.c (.b true)) (.t 32))] [32, 31, 30, 29, 28, 27, 26, 25, 24, 23, 22, 21, 20, 19, 18, 17, 16, 15, 14, 13, 12, 11, 10, 9, 8, 7, 6]) (
 .cond (.t 33) (sq (.reg [
 O 4 (.mov (.c (.b false)))] []) (
 .ret))
 (.skip))) (
 sq (sq (.reg [
 O 5 (.mov (.c (I 0)))] []) (
 .block 0 (
 .loop [2, 3, 5] L303_0))) (
 sq (.reg [
 O 4 (.mov (.c (.b true)))] []) (
 .ret))))⟩
def L364_0 : PC :=
 sq (.reg [
 O 18 (.bin .lss (.t 17) (.t 16))] []) (
 sq (.cond (.t 18) (.skip)
 (.exit 0)) (
 sq (.block 1 (
 sq (.reg [
 O 19 (.mov (.t 17)),
 O 20 (.iaddr (K1 4) (.t 15) (.t 17)),
 O 21 (.load (K1 4) (.t 20)),
 O 8 (.alloc (K1 4) (.a [(I 0), (I 0), (.s []), (.l (K1 4) [] true)])),
 O 7 (.mov (.t 19)),
 E (.store (K1 4) (.t 8) (.t 21))] [21, 20, 19]) (
 sq (.reg [
 O 22 (.mov (.t 1)),
 O 23 (.mov (.t 7)),
 O 24 (.iaddr (K1 4) (.t 22) (.t 23)),
 O 25 (.load (K1 4) (.t 24)),
 O 9 (.alloc (K1 4) (.a [(I 0), (I 0), (.s []), (.l (K1 4) [] true)])),
 E (.store (K1 4) (.t 9) (.t 25))] [25, 24, 7, 23, 22]) (
 sq (.reg [
 O 26 (.mov (.t 2)),
 O 27 (.load (K1 4) (.t 8)),
 O 28 (.load (K1 4) (.t 9)),
 O 29 (.callv (.t 26) [(.t 27), (.t 28)]),
 O 30 (.un .not (.t 29))] [29, 9, 28, 8, 27, 26]) (
 .cond (.t 30) (sq (.reg [
 O 6 (.mov (.c (.b false)))] []) (
 .ret))
 (.skip)))))) (
 .reg [
 O 31 (.bin .add (.t 17) (.c (I 1))),
 O 17 (.mov (.t 31))] [31])))
def F364 : PF := ⟨3, [.t 6],
 sq (.reg [
 O 6 (.mov (.c (.b false)))] [6]) (
 sq (sq (.reg [
 O 10 (.mov (.t 0)),
 O 11 (.len false (.t 10)),
 O 12 (.mov (.t 1)),
 O 13 (.len false (.t 12)),
 O 14 (.bin .neq (.t 11) (.t 13))] [13, 12, 11, 10]) (
 .cond (.t 14) (sq (.reg [
 O 6 (.mov (.c (.b false)))] []) (
 .ret))
 (.skip))) (
 sq (sq (.reg [
 O 15 (.mov (.t 0)),
 O 16 (.len false (.t 15)),
 O 17 (.mov (.c (I 0)))] [0]) (
 .block 0 (
 .loop [1, 2, 15, 16, 17] L364_0))) (
 sq (.reg [
 O 6 (.mov (.c (.b true)))] []) (
 .ret))))⟩
def F1083 : PF := ⟨2, [.t 4],
 sq (.reg [
 O 2 (.box (K1 42) (.t 0)),
 O 3 (.box (K1 42) (.t 1)),
 O 4 (.mov (.c (.b false)))] [4, 1, 0]) (
 sq (sq (.reg [
 O 5 (.load (K1 42) (.t 2)),
 O 6 (.call 0 77 [(.t 5)]),
 O 7 (.un .not (.t 6)),
 O 8 (.mov (.t 7)),
 OG 9 8 false (.load (K1 42) (.t 3)),
 OG 10 8 false (.call 0 77 [(.t 9)]),
 OG 11 8 false (.un .not (.t 10)),
 O 12 (.pick (.t 8) (.c (.b true)) (.t 11))] [11, 10, 9, 8, 7, 6, 5]) (
 .cond (.t 12) (sq (.reg [
 O 13 (.call 0 78 []),
 O 4 (.mov (.t 13))] [13]) (
 .ret))
 (.skip))) (
 sq (.regD [
 O 14 (.load (K1 42) (.t 2)),
 O 15 (.load (K1 42) (.t 3)),
 O 16 (.call 0 91 [(.t 14), (.t 15)]),
 O 17 (.load (K1 42) (.t 2)),
 O 18 (.load (K1 42) (.t 3)),
 O 19 (.call 0 82 [(.t 17), (.t 18)]),
 O 20 (.eqb false (.t 16) (.t 19)),
 O 21 (.mov (.t 20)),
 OG 22 21 true (.load (K1 42) (.t 2)),
 OG 23 21 true (.load (K1 42) (.t 2)),
 OG 24 21 true (.call 0 91 [(.t 22), (.t 23)]),
 O 25 (.pick (.t 21) (.t 24) (.c (.b false))),
 O 26 (.mov (.t 25)),
 OG 27 26 true (.load (K1 42) (.t 2)),
 OG 28 26 true (.load (K1 42) (.t 3)),
 OG 29 26 true (.call 0 91 [(.t 27), (.t 28)]),
 OG 30 26 true (.load (K1 42) (.t 3)),
 OG 31 26 true (.load (K1 42) (.t 2)),
 OG 32 26 true (.call 0 91 [(.t 30), (.t 31)]),
 OG 33 26 true (.eqb false (.t 29) (.t 32)),
 O 34 (.pick (.t 26) (.t 33) (.c (.b false))),
 O 35 (.mov (.t 34)),
 OG 36 35 true (.call 0 78 []),
 O 37 (.pick (.t 35) (.t 36) (.c (.b false))),
 O 4 (.mov (.t 37))] [0, 0, 3, 0, 0, 31, 63, 127, 255, 255, 1023, 2047, 4095, 8191, 8191, 32767, 8191, 8191, 262143, 524287, 1048575, 2097151, 4194303, 8388607, 16777215] [37, 36, 35, 34, 33, 32, 31, 30, 29, 28, 27, 26, 25, 24, 23, 22, 21, 20, 19, 18, 17, 16, 3, 15, 2, 14]) (
 .ret)))⟩
end Go.Sim

