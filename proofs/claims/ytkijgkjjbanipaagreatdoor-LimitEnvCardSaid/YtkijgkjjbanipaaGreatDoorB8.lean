/- Part 8 of the proof: CbC25, CbC25E, Cb25Et, CbSimG, CbSimLd. -/
import Derived.Test.YtkijgkjjbanipaaGreatDoorB2
import Derived.Test.YtkijgkjjbanipaaGreatDoorB6
import Derived.Test.YtkijgkjjbanipaaGreatDoorB7
import Derived.Test.YtkijgkjjbanipaaGreatDoorB5
import Derived.ChangeArms
import Derived.OpenShut
import Derived.Deep.Slices
import Derived.WideShapes
import Derived.ProofKit
import Derived.LaidMore
set_option linter.all false
section
namespace Go.Sim
def L603_0 : PC :=
 sq (sq (.reg [
 O 10 (.mov (.t 9)),
 O 11 (.mov (.t 0)),
 O 12 (.len false (.t 11)),
 O 13 (.bin .lss (.t 10) (.t 12))] [12, 11, 10]) (
 .cond (.t 13) (.skip)
 (.exit 0))) (
 sq (.block 1 (
 sq (.regD [
 O 16 (.mov (.t 0)),
 O 17 (.mov (.t 9)),
 O 18 (.iaddr (K1 19) (.t 16) (.t 17)),
 O 19 (.faddr 0 (.t 18)),
 O 20 (.load K0 (.t 19)),
 O 21 (.mov (.t 1)),
 O 22 (.bin .eql (.t 20) (.t 21)),
 O 23 (.mov (.t 22)),
 OG 24 23 true (.mov (.t 0)),
 OG 25 23 true (.mov (.t 9)),
 OG 26 23 true (.iaddr (K1 19) (.t 24) (.t 25)),
 OG 27 23 true (.faddr 3 (.t 26)),
 OG 28 23 true (.load K0 (.t 27)),
 OG 29 23 true (.mov (.t 2)),
 OG 30 23 true (.bin .leq (.t 28) (.t 29)),
 O 31 (.pick (.t 23) (.t 30) (.c (.b false))),
 O 32 (.mov (.t 31)),
 OG 33 32 true (.mov (.t 8)),
 OG 34 32 true (.bin .lss (.t 33) (.c (I 0))),
 OG 35 32 true (.mov (.t 34)),
 OG 36 35 false (.mov (.t 0)),
 OG 37 35 false (.mov (.t 9)),
 OG 38 35 false (.iaddr (K1 19) (.t 36) (.t 37)),
 OG 39 35 false (.faddr 3 (.t 38)),
 OG 40 35 false (.load K0 (.t 39)),
 OG 41 35 false (.mov (.t 0)),
 OG 42 35 false (.mov (.t 8)),
 OG 43 35 false (.iaddr (K1 19) (.t 41) (.t 42)),
 OG 44 35 false (.faddr 3 (.t 43)),
 OG 45 35 false (.load K0 (.t 44)),
 OG 46 35 false (.bin .gtr (.t 40) (.t 45)),
 OG 47 32 true (.pick (.t 35) (.c (.b true)) (.t 46)),
 O 48 (.pick (.t 32) (.t 47) (.c (.b false)))] [0, 0, 3, 7, 15, 0, 63, 127, 255, 255, 1023, 2047, 4095, 255, 16383, 32767, 65535, 131071, 262143, 524287, 1048575, 1048575, 4194303, 8388607, 16777215, 1048575, 1048575, 101711871, 235929599, 504365055, 1073741823, 2147483647, 4294967295] [47, 46, 45, 44, 43, 42, 41, 40, 39, 38, 37, 36, 35, 34, 33, 32, 31, 30, 29, 28, 27, 26, 25, 24, 23, 22, 21, 20, 19, 18, 17, 16]) (
 .cond (.t 48) (.reg [
 O 49 (.mov (.t 9)),
 O 8 (.mov (.t 49))] [49])
 (.skip)))) (
 .reg [
 O 14 (.mov (.t 9)),
 O 15 (.bin .add (.t 14) (.c (I 1))),
 O 9 (.mov (.t 15))] [15, 14]))
def F603 : PF := ⟨3, [.c 6 (K1 19), .t 7],
 sq (.reg [
 O 6 (.alloc (K1 19) (.a [(.s []), (.s []), (.s []), (I 0), (I 0), (I 0), (I 0), (.l (K1 2) [] true), (.b false), (I 0), (I 0), (.b false), (.l (K1 2) [] true), (.b false), (I 0), (I 0), (.b false), (.l (K1 10) [] true), (.l (K1 6) [] true)])),
 O 7 (.mov (.c (.b false)))] [7]) (
 sq (.reg [
 O 8 (.mov (.c (I (-1))))] []) (
 sq (sq (.reg [
 O 9 (.mov (.c (I 0)))] []) (
 .block 0 (
 .loop [0, 1, 2, 6, 8, 9] L603_0))) (
 sq (sq (.reg [
 O 50 (.mov (.t 8)),
 O 51 (.bin .lss (.t 50) (.c (I 0)))] [50]) (
 .cond (.t 51) (sq (.reg [
 O 52 (.agg [(.s []), (.s []), (.s []), (I 0), (I 0), (I 0), (I 0), (.l (K1 2) [] true), (.b false), (I 0), (I 0), (.b false), (.l (K1 2) [] true), (.b false), (I 0), (I 0), (.b false), (.l (K1 10) [] true), (.l (K1 6) [] true)] []),
 E (.store (K1 19) (.t 6) (.t 52)),
 O 7 (.mov (.c (.b false)))] [52]) (
 .ret))
 (.skip))) (
 sq (.reg [
 O 53 (.mov (.t 0)),
 O 54 (.mov (.t 8)),
 O 55 (.iaddr (K1 19) (.t 53) (.t 54)),
 O 56 (.load (K1 19) (.t 55)),
 E (.store (K1 19) (.t 6) (.t 56)),
 O 7 (.mov (.c (.b true)))] [56, 55, 8, 54, 0, 53]) (
 .ret)))))⟩
def L683_0 : PC :=
 sq (sq (.reg [
 O 7 (.mov (.t 6)),
 O 8 (.faddr 18 (.t 2)),
 O 9 (.load K0 (.t 8)),
 O 10 (.len false (.t 9)),
 O 11 (.bin .lss (.t 7) (.t 10))] [10, 9, 8, 7]) (
 .cond (.t 11) (.skip)
 (.exit 0))) (
 sq (.block 1 (
 sq (.reg [
 O 14 (.faddr 18 (.t 2)),
 O 15 (.load K0 (.t 14)),
 O 16 (.mov (.t 6)),
 O 17 (.iaddr (K1 7) (.t 15) (.t 16)),
 O 18 (.faddr 0 (.t 17)),
 O 19 (.load K0 (.t 18)),
 O 20 (.mov (.t 1)),
 O 21 (.bin .eql (.t 19) (.t 20))] [20, 19, 18, 17, 16, 15, 14]) (
 .cond (.t 21) (sq (.reg [
 O 22 (.faddr 18 (.t 2)),
 O 23 (.load K0 (.t 22)),
 O 24 (.mov (.t 6)),
 O 25 (.iaddr (K1 7) (.t 23) (.t 24)),
 O 26 (.load (K1 7) (.t 25)),
 E (.store (K1 7) (.t 4) (.t 26)),
 O 5 (.mov (.c (.b true)))] [26, 25, 6, 24, 23, 2, 22]) (
 .ret))
 (.skip)))) (
 .reg [
 O 12 (.mov (.t 6)),
 O 13 (.bin .add (.t 12) (.c (I 1))),
 O 6 (.mov (.t 13))] [13, 12]))
def F683 : PF := ⟨2, [.c 4 (K1 7), .t 5],
 sq (.reg [
 O 2 (.box (K1 22) (.t 0)),
 O 4 (.alloc (K1 7) (.a [(I 0), (I 0), (I 0), (I 0), (.s []), (.s []), (.s [])])),
 O 5 (.mov (.c (.b false)))] [5, 0]) (
 sq (sq (.reg [
 O 6 (.mov (.c (I 0)))] []) (
 .block 0 (
 .loop [1, 2, 4, 6] L683_0))) (
 sq (.reg [
 O 27 (.agg [(I 0), (I 0), (I 0), (I 0), (.s []), (.s []), (.s [])] []),
 E (.store (K1 7) (.t 4) (.t 27)),
 O 5 (.mov (.c (.b false)))] [27]) (
 .ret)))⟩
def F919 : PF := ⟨2, [.t 4],
 sq (.reg [
 O 2 (.box (K1 4) (.t 0)),
 O 4 (.mov (.c (.b false)))] [4, 0]) (
 sq (.reg [
 O 5 (.load (K1 4) (.t 2)),
 O 6 (.mov (.t 1)),
 O 7 (.call 0 950 [(.t 5), (.t 6)]),
 O 8 (.mov (.t 1)),
 O 9 (.bin .gtr (.t 7) (.t 8)),
 O 4 (.mov (.t 9))] [9, 8, 7, 1, 6, 2, 5]) (
 .ret))⟩
def L950_0 : PC :=
 sq (sq (.reg [
 O 7 (.mov (.t 6)),
 O 8 (.faddr 3 (.t 2)),
 O 9 (.load K0 (.t 8)),
 O 10 (.len false (.t 9)),
 O 11 (.bin .lss (.t 7) (.t 10)),
 O 12 (.mov (.t 11)),
 OG 13 12 true (.mov (.t 5)),
 OG 14 12 true (.mov (.t 1)),
 OG 15 12 true (.bin .leq (.t 13) (.t 14)),
 O 16 (.pick (.t 12) (.t 15) (.c (.b false)))] [15, 14, 13, 12, 11, 10, 9, 8, 7]) (
 .cond (.t 16) (.skip)
 (.exit 0))) (
 sq (.block 1 (
 .reg [
 O 19 (.mov (.t 5)),
 O 20 (.faddr 3 (.t 2)),
 O 21 (.load K0 (.t 20)),
 O 22 (.mov (.t 6)),
 O 23 (.iaddr (K1 4) (.t 21) (.t 22)),
 O 24 (.load (K1 4) (.t 23)),
 O 25 (.mov (.t 1)),
 O 26 (.mov (.t 5)),
 O 27 (.bin .sub (.t 25) (.t 26)),
 O 28 (.call 0 950 [(.t 24), (.t 27)]),
 O 29 (.bin .add (.t 19) (.t 28)),
 O 5 (.mov (.t 29))] [29, 28, 27, 26, 25, 24, 23, 22, 21, 20, 19])) (
 .reg [
 O 17 (.mov (.t 6)),
 O 18 (.bin .add (.t 17) (.c (I 1))),
 O 6 (.mov (.t 18))] [18, 17]))
def F950 : PF := ⟨2, [.t 4],
 sq (.reg [
 O 2 (.box (K1 4) (.t 0)),
 O 4 (.mov (.c (I 0)))] [4, 0]) (
 sq (.reg [
 O 5 (.mov (.c (I 1)))] []) (
 sq (sq (.reg [
 O 6 (.mov (.c (I 0)))] []) (
 .block 0 (
 .loop [1, 2, 5, 6] L950_0))) (
 sq (.reg [
 O 30 (.mov (.t 5)),
 O 4 (.mov (.t 30))] [5, 30]) (
 .ret))))⟩
def F1022 : PF := ⟨3, [.t 6, .t 7],
 sq (.reg [
 O 3 (.box (K1 22) (.t 0)),
 O 6 (.mov (.c (I 0))),
 O 7 (.mov (.c (I 0)))] [7, 6, 0]) (
 sq (.reg [
 O 11 (.load (K1 22) (.t 3)),
 O 12 (.mov (.t 1)),
 O 13 (.mov (.t 2)),
 O 14 (.call 0 1026 [(.t 11), (.t 12), (.t 13)]),
 O 10 (.mov (.t 14)),
 O 15 (.ext (.t 10) 0),
 O 16 (.ext (.t 10) 1),
 O 8 (.mov (.t 15)),
 O 9 (.mov (.t 16))] [16, 15, 10, 14, 13, 12, 11]) (
 sq (sq (.reg [
 O 17 (.mov (.t 9)),
 O 18 (.bin .neq (.t 17) (.c (I 0)))] [17]) (
 .cond (.t 18) (sq (.reg [
 O 19 (.mov (.t 9)),
 O 6 (.mov (.c (I 0))),
 O 7 (.mov (.t 19))] [9, 19]) (
 .ret))
 (.skip))) (
 sq (.regD [
 O 20 (.faddr 19 (.t 3)),
 O 21 (.load K0 (.t 20)),
 O 22 (.mov (.t 1)),
 O 23 (.call 0 1027 [(.t 21), (.t 22)]),
 O 24 (.mov (.t 8)),
 O 25 (.bin .sub (.t 23) (.t 24)),
 O 26 (.faddr 20 (.t 3)),
 O 27 (.load K0 (.t 26)),
 O 28 (.mov (.t 1)),
 O 29 (.mov (.t 2)),
 O 30 (.call 0 1028 [(.t 27), (.t 28), (.t 29)]),
 O 31 (.bin .sub (.t 25) (.t 30)),
 O 32 (.faddr 21 (.t 3)),
 O 33 (.load K0 (.t 32)),
 O 34 (.mov (.t 1)),
 O 35 (.mov (.t 2)),
 O 36 (.call 0 1029 [(.t 33), (.t 34), (.t 35)]),
 O 37 (.bin .sub (.t 31) (.t 36)),
 O 6 (.mov (.t 37)),
 O 7 (.mov (.c (I 0)))] [0, 1, 0, 7, 0, 31, 0, 64, 0, 0, 975, 2047, 0, 4096, 0, 0, 63439, 131071, 262143, 524287] [37, 36, 35, 34, 33, 32, 31, 30, 2, 29, 28, 27, 26, 25, 8, 24, 23, 1, 22, 21, 3, 20]) (
 .ret))))⟩
def F1023 : PF := ⟨3, [.c 6 (K1 19), .t 7],
 sq (.reg [
 O 3 (.box (K1 22) (.t 0)),
 O 6 (.alloc (K1 19) (.a [(.s []), (.s []), (.s []), (I 0), (I 0), (I 0), (I 0), (.l (K1 2) [] true), (.b false), (I 0), (I 0), (.b false), (.l (K1 2) [] true), (.b false), (I 0), (I 0), (.b false), (.l (K1 10) [] true), (.l (K1 6) [] true)])),
 O 7 (.mov (.c (.b false)))] [7, 0]) (
 sq (.reg [
 O 11 (.load (K1 22) (.t 3)),
 O 12 (.mov (.t 1)),
 O 13 (.call 0 683 [(.t 11), (.t 12)]),
 O 10 (.mov (.t 13)),
 O 14 (.ext (.t 10) 0),
 O 15 (.ext (.t 10) 1),
 O 8 (.alloc (K1 7) (.a [(I 0), (I 0), (I 0), (I 0), (.s []), (.s []), (.s [])])),
 E (.store (K1 7) (.t 8) (.t 14)),
 O 9 (.mov (.t 15))] [15, 14, 10, 13, 1, 12, 11]) (
 sq (sq (.reg [
 O 16 (.mov (.t 9)),
 O 17 (.un .not (.t 16))] [9, 16]) (
 .cond (.t 17) (sq (.reg [
 O 18 (.agg [(.s []), (.s []), (.s []), (I 0), (I 0), (I 0), (I 0), (.l (K1 2) [] true), (.b false), (I 0), (I 0), (.b false), (.l (K1 2) [] true), (.b false), (I 0), (I 0), (.b false), (.l (K1 10) [] true), (.l (K1 6) [] true)] []),
 E (.store (K1 19) (.t 6) (.t 18)),
 O 7 (.mov (.c (.b false)))] [18]) (
 .ret))
 (.skip))) (
 sq (.reg [
 O 19 (.faddr 17 (.t 3)),
 O 20 (.load K0 (.t 19)),
 O 21 (.faddr 5 (.t 8)),
 O 22 (.load K0 (.t 21)),
 O 23 (.mov (.t 2)),
 O 24 (.call 0 603 [(.t 20), (.t 22), (.t 23)]),
 O 25 (.ext (.t 24) 0),
 O 26 (.ext (.t 24) 1),
 E (.store (K1 19) (.t 6) (.t 25)),
 O 7 (.mov (.t 26))] [26, 25, 24, 2, 23, 22, 8, 21, 20, 3, 19]) (
 .ret))))⟩
def L1025_0 : PC :=
 sq (sq (.reg [
 O 10 (.mov (.t 8)),
 O 11 (.mov (.t 0)),
 O 12 (.len false (.t 11)),
 O 13 (.bin .lss (.t 10) (.t 12))] [12, 11, 10]) (
 .cond (.t 13) (.skip)
 (.exit 0))) (
 sq (.block 1 (
 sq (.reg [
 O 16 (.mov (.t 0)),
 O 17 (.mov (.t 8)),
 O 18 (.iaddr (K1 7) (.t 16) (.t 17)),
 O 19 (.faddr 1 (.t 18)),
 O 20 (.load K0 (.t 19)),
 O 21 (.mov (.t 1)),
 O 22 (.bin .eql (.t 20) (.t 21)),
 O 23 (.mov (.t 22)),
 OG 24 23 true (.mov (.t 0)),
 OG 25 23 true (.mov (.t 8)),
 OG 26 23 true (.iaddr (K1 7) (.t 24) (.t 25)),
 OG 27 23 true (.faddr 4 (.t 26)),
 OG 28 23 true (.load K0 (.t 27)),
 OG 29 23 true (.mov (.t 2)),
 OG 30 23 true (.bin .leq (.t 28) (.t 29)),
 O 31 (.pick (.t 23) (.t 30) (.c (.b false))),
 O 32 (.mov (.t 31)),
 OG 33 32 true (.mov (.t 2)),
 OG 34 32 true (.mov (.t 0)),
 OG 35 32 true (.mov (.t 8)),
 OG 36 32 true (.iaddr (K1 7) (.t 34) (.t 35)),
 OG 37 32 true (.faddr 5 (.t 36)),
 OG 38 32 true (.load K0 (.t 37)),
 OG 39 32 true (.bin .leq (.t 33) (.t 38)),
 O 40 (.pick (.t 32) (.t 39) (.c (.b false)))] [39, 38, 37, 36, 35, 34, 33, 32, 31, 30, 29, 28, 27, 26, 25, 24, 23, 22, 21, 20, 19, 18, 17, 16]) (
 .cond (.t 40) (.reg [
 O 41 (.mov (.t 7)),
 O 42 (.mov (.t 0)),
 O 43 (.mov (.t 8)),
 O 44 (.iaddr (K1 7) (.t 42) (.t 43)),
 O 45 (.load (K1 7) (.t 44)),
 O 46 (.bsl (K1 7) (.a [(I 0), (I 0), (I 0), (I 0), (I 0), (I 0), (.s [])]) 1 [(0, (.t 45))]),
 O 47 (.app (K1 7) 64 (.t 41) (.t 46)),
 O 7 (.mov (.t 47))] [47, 46, 45, 44, 43, 42, 41])
 (.skip)))) (
 .reg [
 O 14 (.mov (.t 8)),
 O 15 (.bin .add (.t 14) (.c (I 1))),
 O 8 (.mov (.t 15))] [15, 14]))
def F1025 : PF := ⟨3, [.t 6],
 sq (.reg [
 O 6 (.mov (.c (.l (K1 7) [] true)))] [6]) (
 sq (.reg [
 O 9 (.bsl (K1 7) (.a [(I 0), (I 0), (I 0), (I 0), (I 0), (I 0), (.s [])]) 0 []),
 O 7 (.mov (.t 9))] [9]) (
 sq (sq (.reg [
 O 8 (.mov (.c (I 0)))] []) (
 .block 0 (
 .loop [0, 1, 2, 7, 8] L1025_0))) (
 sq (.reg [
 O 48 (.mov (.t 7)),
 O 6 (.mov (.t 48))] [7, 48]) (
 .ret))))⟩
def F1026 : PF := ⟨3, [.t 6, .t 7],
 sq (.reg [
 O 3 (.box (K1 22) (.t 0)),
 O 6 (.mov (.c (I 0))),
 O 7 (.mov (.c (I 0)))] [7, 6, 0]) (
 sq (.reg [
 O 13 (.load (K1 22) (.t 3)),
 O 14 (.mov (.t 1)),
 O 15 (.call 0 683 [(.t 13), (.t 14)]),
 O 12 (.mov (.t 15)),
 O 16 (.ext (.t 12) 0),
 O 17 (.ext (.t 12) 1),
 O 8 (.alloc (K1 7) (.a [(I 0), (I 0), (I 0), (I 0), (.s []), (.s []), (.s [])])),
 E (.store (K1 7) (.t 8) (.t 16)),
 O 9 (.mov (.t 17))] [17, 16, 12, 15, 14, 13]) (
 sq (.reg [
 O 19 (.load (K1 22) (.t 3)),
 O 20 (.mov (.t 1)),
 O 21 (.mov (.t 2)),
 O 22 (.call 0 1023 [(.t 19), (.t 20), (.t 21)]),
 O 18 (.mov (.t 22)),
 O 23 (.ext (.t 18) 0),
 O 24 (.ext (.t 18) 1),
 O 10 (.alloc (K1 19) (.a [(.s []), (.s []), (.s []), (I 0), (I 0), (I 0), (I 0), (.l (K1 2) [] true), (.b false), (I 0), (I 0), (.b false), (.l (K1 2) [] true), (.b false), (I 0), (I 0), (.b false), (.l (K1 10) [] true), (.l (K1 6) [] true)])),
 E (.store (K1 19) (.t 10) (.t 23)),
 O 11 (.mov (.t 24))] [24, 23, 18, 22, 2, 21, 1, 20, 3, 19]) (
 sq (sq (.reg [
 O 25 (.mov (.t 9)),
 O 26 (.un .not (.t 25)),
 O 27 (.mov (.t 26)),
 OG 28 27 false (.mov (.t 11)),
 OG 29 27 false (.un .not (.t 28)),
 O 30 (.pick (.t 27) (.c (.b true)) (.t 29))] [29, 11, 28, 27, 26, 9, 25]) (
 .cond (.t 30) (sq (.reg [
 O 6 (.mov (.c (I 0))),
 O 7 (.mov (.c (I 11)))] []) (
 .ret))
 (.skip))) (
 sq (.reg [
 O 31 (.faddr 5 (.t 10)),
 O 32 (.load K0 (.t 31)),
 O 33 (.faddr 3 (.t 8)),
 O 34 (.load K0 (.t 33)),
 O 35 (.bin .add (.t 32) (.t 34)),
 O 36 (.un .neg (.t 35)),
 O 6 (.mov (.t 36)),
 O 7 (.mov (.c (I 0)))] [36, 35, 34, 8, 33, 32, 10, 31]) (
 .ret)))))⟩
def L1027_0 : PC :=
 sq (sq (.reg [
 O 7 (.mov (.t 6)),
 O 8 (.mov (.t 0)),
 O 9 (.len false (.t 8)),
 O 10 (.bin .lss (.t 7) (.t 9))] [9, 8, 7]) (
 .cond (.t 10) (.skip)
 (.exit 0))) (
 sq (.block 1 (
 .reg [
 O 13 (.mov (.t 5)),
 O 14 (.mov (.t 0)),
 O 15 (.mov (.t 6)),
 O 16 (.iaddr (K1 10) (.t 14) (.t 15)),
 O 17 (.load (K1 10) (.t 16)),
 O 18 (.mov (.t 1)),
 O 19 (.call 0 1034 [(.t 17), (.t 18)]),
 O 20 (.bin .add (.t 13) (.t 19)),
 O 5 (.mov (.t 20))] [20, 19, 18, 17, 16, 15, 14, 13])) (
 .reg [
 O 11 (.mov (.t 6)),
 O 12 (.bin .add (.t 11) (.c (I 1))),
 O 6 (.mov (.t 12))] [12, 11]))
def F1027 : PF := ⟨2, [.t 4],
 sq (.reg [
 O 4 (.mov (.c (I 0)))] [4]) (
 sq (.reg [
 O 5 (.mov (.c (I 0)))] []) (
 sq (sq (.reg [
 O 6 (.mov (.c (I 0)))] []) (
 .block 0 (
 .loop [0, 1, 5, 6] L1027_0))) (
 sq (.reg [
 O 21 (.mov (.t 5)),
 O 4 (.mov (.t 21))] [5, 21]) (
 .ret))))⟩
def L1028_0 : PC :=
 sq (sq (.reg [
 O 9 (.mov (.t 8)),
 O 10 (.mov (.t 0)),
 O 11 (.len false (.t 10)),
 O 12 (.bin .lss (.t 9) (.t 11))] [11, 10, 9]) (
 .cond (.t 12) (.skip)
 (.exit 0))) (
 sq (.block 1 (
 sq (.reg [
 O 15 (.mov (.t 0)),
 O 16 (.mov (.t 8)),
 O 17 (.iaddr (K1 6) (.t 15) (.t 16)),
 O 18 (.faddr 1 (.t 17)),
 O 19 (.load K0 (.t 18)),
 O 20 (.mov (.t 1)),
 O 21 (.bin .eql (.t 19) (.t 20)),
 O 22 (.mov (.t 21)),
 OG 23 22 true (.mov (.t 2)),
 OG 24 22 true (.mov (.t 0)),
 OG 25 22 true (.mov (.t 8)),
 OG 26 22 true (.iaddr (K1 6) (.t 24) (.t 25)),
 OG 27 22 true (.faddr 3 (.t 26)),
 OG 28 22 true (.load K0 (.t 27)),
 OG 29 22 true (.bin .geq (.t 23) (.t 28)),
 O 30 (.pick (.t 22) (.t 29) (.c (.b false))),
 O 31 (.mov (.t 30)),
 OG 32 31 true (.mov (.t 2)),
 OG 33 31 true (.mov (.t 0)),
 OG 34 31 true (.mov (.t 8)),
 OG 35 31 true (.iaddr (K1 6) (.t 33) (.t 34)),
 OG 36 31 true (.faddr 4 (.t 35)),
 OG 37 31 true (.load K0 (.t 36)),
 OG 38 31 true (.bin .leq (.t 32) (.t 37)),
 O 39 (.pick (.t 31) (.t 38) (.c (.b false)))] [38, 37, 36, 35, 34, 33, 32, 31, 30, 29, 28, 27, 26, 25, 24, 23, 22, 21, 20, 19, 18, 17, 16, 15]) (
 .cond (.t 39) (.reg [
 O 40 (.mov (.t 7)),
 O 41 (.mov (.t 0)),
 O 42 (.mov (.t 8)),
 O 43 (.iaddr (K1 6) (.t 41) (.t 42)),
 O 44 (.faddr 2 (.t 43)),
 O 45 (.load K0 (.t 44)),
 O 46 (.bin .add (.t 40) (.t 45)),
 O 7 (.mov (.t 46))] [46, 45, 44, 43, 42, 41, 40])
 (.skip)))) (
 .reg [
 O 13 (.mov (.t 8)),
 O 14 (.bin .add (.t 13) (.c (I 1))),
 O 8 (.mov (.t 14))] [14, 13]))
def F1028 : PF := ⟨3, [.t 6],
 sq (.reg [
 O 6 (.mov (.c (I 0)))] [6]) (
 sq (.reg [
 O 7 (.mov (.c (I 0)))] []) (
 sq (sq (.reg [
 O 8 (.mov (.c (I 0)))] []) (
 .block 0 (
 .loop [0, 1, 2, 7, 8] L1028_0))) (
 sq (.reg [
 O 47 (.mov (.t 7)),
 O 6 (.mov (.t 47))] [7, 47]) (
 .ret))))⟩
def L1029_0 : PC :=
 sq (sq (.reg [
 O 14 (.mov (.t 9)),
 O 15 (.mov (.t 7)),
 O 16 (.len false (.t 15)),
 O 17 (.bin .lss (.t 14) (.t 16))] [16, 15, 14]) (
 .cond (.t 17) (.skip)
 (.exit 0))) (
 sq (.block 1 (
 sq (.reg [
 O 20 (.mov (.t 7)),
 O 21 (.mov (.t 9)),
 O 22 (.iaddr (K1 7) (.t 20) (.t 21)),
 O 23 (.faddr 2 (.t 22)),
 O 24 (.load K0 (.t 23)),
 O 25 (.bin .eql (.t 24) (.c (I 4)))] [24, 23, 22, 21, 20]) (
 .cond (.t 25) (.reg [
 O 26 (.mov (.t 8)),
 O 27 (.mov (.t 7)),
 O 28 (.mov (.t 9)),
 O 29 (.iaddr (K1 7) (.t 27) (.t 28)),
 O 30 (.faddr 3 (.t 29)),
 O 31 (.load K0 (.t 30)),
 O 32 (.bin .add (.t 26) (.t 31)),
 O 8 (.mov (.t 32))] [32, 31, 30, 29, 28, 27, 26])
 (.skip)))) (
 .reg [
 O 18 (.mov (.t 9)),
 O 19 (.bin .add (.t 18) (.c (I 1))),
 O 9 (.mov (.t 19))] [19, 18]))
def F1029 : PF := ⟨3, [.t 6],
 sq (.reg [
 O 6 (.mov (.c (I 0)))] [6]) (
 sq (.reg [
 O 10 (.mov (.t 0)),
 O 11 (.mov (.t 1)),
 O 12 (.mov (.t 2)),
 O 13 (.call 0 1025 [(.t 10), (.t 11), (.t 12)]),
 O 7 (.mov (.t 13))] [13, 2, 12, 1, 11, 0, 10]) (
 sq (.reg [
 O 8 (.mov (.c (I 0)))] []) (
 sq (sq (.reg [
 O 9 (.mov (.c (I 0)))] []) (
 .block 0 (
 .loop [7, 8, 9] L1029_0))) (
 sq (.reg [
 O 33 (.mov (.t 8)),
 O 6 (.mov (.t 33))] [8, 33]) (
 .ret)))))⟩
def L1032_0 : PC :=
 sq (sq (.reg [
 O 12 (.mov (.t 10)),
 O 13 (.faddr 19 (.t 4)),
 O 14 (.load K0 (.t 13)),
 O 15 (.len false (.t 14)),
 O 16 (.bin .lss (.t 12) (.t 15))] [15, 14, 13, 12]) (
 .cond (.t 16) (.skip)
 (.exit 0))) (
 sq (.block 1 (
 sq (.reg [
 O 19 (.faddr 19 (.t 4)),
 O 20 (.load K0 (.t 19)),
 O 21 (.mov (.t 10)),
 O 22 (.iaddr (K1 10) (.t 20) (.t 21)),
 O 23 (.load (K1 10) (.t 22)),
 O 11 (.alloc (K1 10) (.a [(I 0), (I 0), (I 0), (I 0), (I 0), (I 0), (.s []), (.s []), (.l (K1 3) [] true), (.i .u64 0)])),
 E (.store (K1 10) (.t 11) (.t 23))] [23, 22, 21, 20, 19]) (
 sq (.reg [
 O 24 (.load (K1 10) (.t 11)),
 O 25 (.call 0 1043 [(.t 24)]),
 O 26 (.mov (.t 25)),
 OG 27 26 true (.faddr 1 (.t 11)),
 OG 28 26 true (.load K0 (.t 27)),
 OG 29 26 true (.mov (.t 2)),
 OG 30 26 true (.bin .geq (.t 28) (.t 29)),
 O 31 (.pick (.t 26) (.t 30) (.c (.b false))),
 O 32 (.mov (.t 31)),
 OG 33 32 true (.faddr 1 (.t 11)),
 OG 34 32 true (.load K0 (.t 33)),
 OG 35 32 true (.mov (.t 3)),
 OG 36 32 true (.bin .leq (.t 34) (.t 35)),
 O 37 (.pick (.t 32) (.t 36) (.c (.b false)))] [36, 35, 34, 33, 32, 31, 30, 29, 28, 27, 26, 25, 24]) (
 .cond (.t 37) (.reg [
 O 38 (.mov (.t 9)),
 O 39 (.load (K1 10) (.t 11)),
 O 40 (.mov (.t 1)),
 O 41 (.call 0 1044 [(.t 39), (.t 40)]),
 O 42 (.bin .add (.t 38) (.t 41)),
 O 9 (.mov (.t 42))] [42, 41, 40, 11, 39, 38])
 (.skip))))) (
 .reg [
 O 17 (.mov (.t 10)),
 O 18 (.bin .add (.t 17) (.c (I 1))),
 O 10 (.mov (.t 18))] [18, 17]))
def F1032 : PF := ⟨4, [.t 8],
 sq (.reg [
 O 4 (.box (K1 22) (.t 0)),
 O 8 (.mov (.c (I 0)))] [8, 0]) (
 sq (.reg [
 O 9 (.mov (.c (I 0)))] []) (
 sq (sq (.reg [
 O 10 (.mov (.c (I 0)))] []) (
 .block 0 (
 .loop [1, 2, 3, 4, 9, 10] L1032_0))) (
 sq (.reg [
 O 43 (.mov (.t 9)),
 O 8 (.mov (.t 43))] [9, 43]) (
 .ret))))⟩
def L1034_0 : PC :=
 sq (sq (.reg [
 O 7 (.mov (.t 6)),
 O 8 (.faddr 8 (.t 2)),
 O 9 (.load K0 (.t 8)),
 O 10 (.len false (.t 9)),
 O 11 (.bin .lss (.t 7) (.t 10))] [10, 9, 8, 7]) (
 .cond (.t 11) (.skip)
 (.exit 0))) (
 sq (.block 1 (
 sq (.reg [
 O 14 (.faddr 8 (.t 2)),
 O 15 (.load K0 (.t 14)),
 O 16 (.mov (.t 6)),
 O 17 (.iaddr (K1 3) (.t 15) (.t 16)),
 O 18 (.faddr 0 (.t 17)),
 O 19 (.load K0 (.t 18)),
 O 20 (.mov (.t 1)),
 O 21 (.bin .eql (.t 19) (.t 20))] [20, 19, 18, 17, 16, 15, 14]) (
 .cond (.t 21) (.reg [
 O 22 (.mov (.t 5)),
 O 23 (.faddr 8 (.t 2)),
 O 24 (.load K0 (.t 23)),
 O 25 (.mov (.t 6)),
 O 26 (.iaddr (K1 3) (.t 24) (.t 25)),
 O 27 (.faddr 1 (.t 26)),
 O 28 (.load K0 (.t 27)),
 O 29 (.bin .sub (.t 22) (.t 28)),
 O 5 (.mov (.t 29))] [29, 28, 27, 26, 25, 24, 23, 22])
 (.skip)))) (
 .reg [
 O 12 (.mov (.t 6)),
 O 13 (.bin .add (.t 12) (.c (I 1))),
 O 6 (.mov (.t 13))] [13, 12]))
def F1034 : PF := ⟨2, [.t 4],
 sq (.reg [
 O 2 (.box (K1 10) (.t 0)),
 O 4 (.mov (.c (I 0)))] [4, 0]) (
 sq (.reg [
 O 5 (.mov (.c (I 0)))] []) (
 sq (sq (.reg [
 O 6 (.mov (.c (I 0)))] []) (
 .block 0 (
 .loop [1, 2, 5, 6] L1034_0))) (
 sq (.reg [
 O 30 (.mov (.t 5)),
 O 4 (.mov (.t 30))] [5, 30]) (
 .ret))))⟩
def F1043 : PF := ⟨1, [.t 2],
 sq (.reg [
 O 1 (.box (K1 10) (.t 0)),
 O 2 (.mov (.c (.b false)))] [2, 0]) (
 sq (.reg [
 O 3 (.faddr 4 (.t 1)),
 O 4 (.load K0 (.t 3)),
 O 5 (.bin .eql (.t 4) (.c (I 0))),
 O 6 (.mov (.t 5)),
 OG 7 6 true (.faddr 3 (.t 1)),
 OG 8 6 true (.load K0 (.t 7)),
 OG 9 6 true (.bin .eql (.t 8) (.c (I 2))),
 OG 10 6 true (.mov (.t 9)),
 OG 11 10 false (.faddr 3 (.t 1)),
 OG 12 10 false (.load K0 (.t 11)),
 OG 13 10 false (.bin .eql (.t 12) (.c (I 3))),
 OG 14 6 true (.pick (.t 10) (.c (.b true)) (.t 13)),
 OG 15 6 true (.mov (.t 14)),
 OG 16 15 false (.faddr 3 (.t 1)),
 OG 17 15 false (.load K0 (.t 16)),
 OG 18 15 false (.bin .eql (.t 17) (.c (I 9))),
 OG 19 6 true (.pick (.t 15) (.c (.b true)) (.t 18)),
 OG 20 6 true (.mov (.t 19)),
 OG 21 20 false (.faddr 3 (.t 1)),
 OG 22 20 false (.load K0 (.t 21)),
 OG 23 20 false (.bin .eql (.t 22) (.c (I 14))),
 OG 24 6 true (.pick (.t 20) (.c (.b true)) (.t 23)),
 O 25 (.pick (.t 6) (.t 24) (.c (.b false))),
 O 2 (.mov (.t 25))] [25, 24, 23, 22, 21, 20, 19, 18, 17, 16, 15, 14, 13, 12, 11, 10, 9, 8, 7, 6, 5, 4, 1, 3]) (
 .ret))⟩
def L1044_0 : PC :=
 sq (sq (.reg [
 O 7 (.mov (.t 6)),
 O 8 (.faddr 8 (.t 2)),
 O 9 (.load K0 (.t 8)),
 O 10 (.len false (.t 9)),
 O 11 (.bin .lss (.t 7) (.t 10))] [10, 9, 8, 7]) (
 .cond (.t 11) (.skip)
 (.exit 0))) (
 sq (.block 1 (
 sq (.reg [
 O 14 (.faddr 8 (.t 2)),
 O 15 (.load K0 (.t 14)),
 O 16 (.mov (.t 6)),
 O 17 (.iaddr (K1 3) (.t 15) (.t 16)),
 O 18 (.faddr 0 (.t 17)),
 O 19 (.load K0 (.t 18)),
 O 20 (.mov (.t 1)),
 O 21 (.bin .eql (.t 19) (.t 20))] [20, 19, 18, 17, 16, 15, 14]) (
 .cond (.t 21) (.reg [
 O 22 (.mov (.t 5)),
 O 23 (.faddr 8 (.t 2)),
 O 24 (.load K0 (.t 23)),
 O 25 (.mov (.t 6)),
 O 26 (.iaddr (K1 3) (.t 24) (.t 25)),
 O 27 (.faddr 1 (.t 26)),
 O 28 (.load K0 (.t 27)),
 O 29 (.bin .add (.t 22) (.t 28)),
 O 5 (.mov (.t 29))] [29, 28, 27, 26, 25, 24, 23, 22])
 (.skip)))) (
 .reg [
 O 12 (.mov (.t 6)),
 O 13 (.bin .add (.t 12) (.c (I 1))),
 O 6 (.mov (.t 13))] [13, 12]))
def F1044 : PF := ⟨2, [.t 4],
 sq (.reg [
 O 2 (.box (K1 10) (.t 0)),
 O 4 (.mov (.c (I 0)))] [4, 0]) (
 sq (.reg [
 O 5 (.mov (.c (I 0)))] []) (
 sq (sq (.reg [
 O 6 (.mov (.c (I 0)))] []) (
 .block 0 (
 .loop [1, 2, 5, 6] L1044_0))) (
 sq (.reg [
 O 30 (.mov (.t 5)),
 O 31 (.minmax true [(.c (I 0)), (.t 30)]),
 O 4 (.mov (.t 31))] [31, 5, 30]) (
 .ret))))⟩
def F1085 : PF := ⟨3, [.t 6],
 sq (.reg [
 O 3 (.box (K1 22) (.t 0)),
 O 4 (.box (K1 3) (.t 1)),
 O 6 (.mov (.c (.b false)))] [6, 1, 0]) (
 sq (sq (.reg [
 O 15 (.load (K1 22) (.t 3)),
 O 16 (.call 0 1090 [(.t 15)])] [15]) (
 .cond (.t 16) (sq (.reg [
 O 17 (.call 0 1091 []),
 O 6 (.mov (.t 17))] [17]) (
 .ret))
 (.skip))) (
 sq (.reg [
 O 19 (.load (K1 22) (.t 3)),
 O 20 (.faddr 0 (.t 4)),
 O 21 (.load K0 (.t 20)),
 O 22 (.faddr 1 (.t 4)),
 O 23 (.load K0 (.t 22)),
 O 24 (.call 0 719 [(.t 19), (.t 21), (.t 23)]),
 O 18 (.mov (.t 24)),
 O 25 (.ext (.t 18) 0),
 O 26 (.ext (.t 18) 1),
 O 7 (.mov (.t 25)),
 O 8 (.mov (.t 26))] [26, 25, 18, 24, 23, 22, 21, 20, 19]) (
 sq (.reg [
 O 28 (.load (K1 22) (.t 3)),
 O 29 (.faddr 0 (.t 4)),
 O 30 (.load K0 (.t 29)),
 O 31 (.faddr 1 (.t 4)),
 O 32 (.load K0 (.t 31)),
 O 33 (.call 0 1026 [(.t 28), (.t 30), (.t 32)]),
 O 27 (.mov (.t 33)),
 O 34 (.ext (.t 27) 0),
 O 35 (.ext (.t 27) 1),
 O 9 (.mov (.t 34)),
 O 10 (.mov (.t 35))] [35, 34, 27, 33, 32, 31, 30, 29, 28]) (
 sq (.reg [
 O 37 (.load (K1 22) (.t 3)),
 O 38 (.faddr 0 (.t 4)),
 O 39 (.load K0 (.t 38)),
 O 40 (.faddr 1 (.t 4)),
 O 41 (.load K0 (.t 40)),
 O 42 (.call 0 634 [(.t 37), (.t 39), (.t 41)]),
 O 36 (.mov (.t 42)),
 O 43 (.ext (.t 36) 0),
 O 44 (.ext (.t 36) 1),
 O 11 (.mov (.t 43)),
 O 12 (.mov (.t 44))] [44, 43, 36, 42, 41, 40, 39, 38, 37]) (
 sq (.reg [
 O 46 (.load (K1 22) (.t 3)),
 O 47 (.faddr 0 (.t 4)),
 O 48 (.load K0 (.t 47)),
 O 49 (.faddr 1 (.t 4)),
 O 50 (.load K0 (.t 49)),
 O 51 (.call 0 1022 [(.t 46), (.t 48), (.t 50)]),
 O 45 (.mov (.t 51)),
 O 52 (.ext (.t 45) 0),
 O 53 (.ext (.t 45) 1),
 O 13 (.mov (.t 52)),
 O 14 (.mov (.t 53))] [53, 52, 45, 51, 50, 49, 48, 47, 46]) (
 sq (.regD [
 O 54 (.mov (.t 7)),
 O 55 (.mov (.t 9)),
 O 56 (.bin .eql (.t 54) (.t 55)),
 O 57 (.mov (.t 56)),
 OG 58 57 true (.mov (.t 8)),
 OG 59 57 true (.mov (.t 10)),
 OG 60 57 true (.bin .eql (.t 58) (.t 59)),
 O 61 (.pick (.t 57) (.t 60) (.c (.b false))),
 O 62 (.mov (.t 61)),
 OG 63 62 true (.mov (.t 11)),
 OG 64 62 true (.mov (.t 13)),
 OG 65 62 true (.bin .eql (.t 63) (.t 64)),
 O 66 (.pick (.t 62) (.t 65) (.c (.b false))),
 O 67 (.mov (.t 66)),
 OG 68 67 true (.mov (.t 12)),
 OG 69 67 true (.mov (.t 14)),
 OG 70 67 true (.bin .eql (.t 68) (.t 69)),
 O 71 (.pick (.t 67) (.t 70) (.c (.b false))),
 O 72 (.mov (.t 71)),
 OG 73 72 true (.load (K1 22) (.t 3)),
 OG 74 72 true (.faddr 0 (.t 4)),
 OG 75 72 true (.load K0 (.t 74)),
 OG 76 72 true (.faddr 1 (.t 4)),
 OG 77 72 true (.load K0 (.t 76)),
 OG 78 72 true (.mov (.t 2)),
 OG 79 72 true (.call 0 918 [(.t 73), (.t 75), (.t 77), (.t 78)]),
 OG 80 72 true (.load (K1 22) (.t 3)),
 OG 81 72 true (.faddr 0 (.t 4)),
 OG 82 72 true (.load K0 (.t 81)),
 OG 83 72 true (.faddr 1 (.t 4)),
 OG 84 72 true (.load K0 (.t 83)),
 OG 85 72 true (.mov (.t 2)),
 OG 86 72 true (.call 0 1032 [(.t 80), (.t 82), (.t 84), (.t 85)]),
 OG 87 72 true (.bin .eql (.t 79) (.t 86)),
 O 88 (.pick (.t 72) (.t 87) (.c (.b false))),
 O 89 (.mov (.t 88)),
 OG 90 89 true (.call 0 1091 []),
 O 91 (.pick (.t 89) (.t 90) (.c (.b false))),
 O 6 (.mov (.t 91))] [0, 0, 3, 7, 15, 15, 63, 127, 255, 511, 511, 2047, 4095, 8191, 16383, 16383, 65535, 131071, 262143, 524287, 524287, 1572863, 524287, 4718591, 524287, 33554431, 524287, 524287, 134742015, 524287, 537395199, 524287, 4294967295, 8589934591, 17179869183, 34359738367, 68719476735, 137438953471, 274877906943] [91, 90, 89, 88, 87, 86, 85, 84, 83, 82, 81, 80, 79, 2, 78, 77, 76, 75, 4, 74, 3, 73, 72, 71, 70, 14, 69, 12, 68, 67, 66, 65, 13, 64, 11, 63, 62, 61, 60, 10, 59, 8, 58, 57, 56, 9, 55, 7, 54]) (
 .ret)))))))⟩
def L1090_0 : PC :=
 sq (sq (.reg [
 O 51 (.mov (.t 3)),
 O 52 (.faddr 17 (.t 1)),
 O 53 (.load K0 (.t 52)),
 O 54 (.len false (.t 53)),
 O 55 (.bin .lss (.t 51) (.t 54))] [54, 53, 52, 51]) (
 .cond (.t 55) (.skip)
 (.exit 0))) (
 sq (.block 1 (
 sq (.reg [
 O 58 (.faddr 17 (.t 1)),
 O 59 (.load K0 (.t 58)),
 O 60 (.mov (.t 3)),
 O 61 (.iaddr (K1 19) (.t 59) (.t 60)),
 O 62 (.load (K1 19) (.t 61)),
 O 63 (.call 0 1095 [(.t 62)])] [62, 61, 60, 59, 58]) (
 .cond (.t 63) (sq (.reg [
 O 2 (.mov (.c (.b true)))] []) (
 .ret))
 (.skip)))) (
 .reg [
 O 56 (.mov (.t 3)),
 O 57 (.bin .add (.t 56) (.c (I 1))),
 O 3 (.mov (.t 57))] [57, 56]))
def L1090_1 : PC :=
 sq (sq (.reg [
 O 64 (.mov (.t 4)),
 O 65 (.faddr 19 (.t 1)),
 O 66 (.load K0 (.t 65)),
 O 67 (.len false (.t 66)),
 O 68 (.bin .lss (.t 64) (.t 67))] [67, 66, 65, 64]) (
 .cond (.t 68) (.skip)
 (.exit 2))) (
 sq (.block 3 (
 sq (.reg [
 O 71 (.faddr 19 (.t 1)),
 O 72 (.load K0 (.t 71)),
 O 73 (.mov (.t 4)),
 O 74 (.iaddr (K1 10) (.t 72) (.t 73)),
 O 75 (.load (K1 10) (.t 74)),
 O 76 (.call 0 1096 [(.t 75)])] [75, 74, 73, 72, 71]) (
 .cond (.t 76) (sq (.reg [
 O 2 (.mov (.c (.b true)))] []) (
 .ret))
 (.skip)))) (
 .reg [
 O 69 (.mov (.t 4)),
 O 70 (.bin .add (.t 69) (.c (I 1))),
 O 4 (.mov (.t 70))] [70, 69]))
def L1090_2 : PC :=
 sq (sq (.reg [
 O 77 (.mov (.t 5)),
 O 78 (.faddr 1 (.t 1)),
 O 79 (.load K0 (.t 78)),
 O 80 (.len false (.t 79)),
 O 81 (.bin .lss (.t 77) (.t 80))] [80, 79, 78, 77]) (
 .cond (.t 81) (.skip)
 (.exit 4))) (
 sq (.block 5 (
 sq (.reg [
 O 84 (.faddr 1 (.t 1)),
 O 85 (.load K0 (.t 84)),
 O 86 (.mov (.t 5)),
 O 87 (.iaddr (K1 3) (.t 85) (.t 86)),
 O 88 (.faddr 2 (.t 87)),
 O 89 (.load K0 (.t 88)),
 O 90 (.len false (.t 89)),
 O 91 (.bin .gtr (.t 90) (.c (I 400))),
 O 92 (.mov (.t 91)),
 OG 93 92 false (.faddr 1 (.t 1)),
 OG 94 92 false (.load K0 (.t 93)),
 OG 95 92 false (.mov (.t 5)),
 OG 96 92 false (.iaddr (K1 3) (.t 94) (.t 95)),
 OG 97 92 false (.faddr 1 (.t 96)),
 OG 98 92 false (.load K0 (.t 97)),
 OG 99 92 false (.len false (.t 98)),
 OG 100 92 false (.bin .gtr (.t 99) (.c (I 20))),
 O 101 (.pick (.t 92) (.c (.b true)) (.t 100))] [100, 99, 98, 97, 96, 95, 94, 93, 92, 91, 90, 89, 88, 87, 86, 85, 84]) (
 .cond (.t 101) (sq (.reg [
 O 2 (.mov (.c (.b true)))] []) (
 .ret))
 (.skip)))) (
 .reg [
 O 82 (.mov (.t 5)),
 O 83 (.bin .add (.t 82) (.c (I 1))),
 O 5 (.mov (.t 83))] [83, 82]))
def F1090 : PF := ⟨1, [.t 2],
 sq (.reg [
 O 1 (.box (K1 22) (.t 0)),
 O 2 (.mov (.c (.b false)))] [2, 0]) (
 sq (sq (.reg [
 O 6 (.faddr 0 (.t 1)),
 O 7 (.load K0 (.t 6)),
 O 8 (.len false (.t 7)),
 O 9 (.bin .gtr (.t 8) (.c (I 20))),
 O 10 (.mov (.t 9)),
 OG 11 10 false (.faddr 1 (.t 1)),
 OG 12 10 false (.load K0 (.t 11)),
 OG 13 10 false (.len false (.t 12)),
 OG 14 10 false (.bin .gtr (.t 13) (.c (I 10))),
 O 15 (.pick (.t 10) (.c (.b true)) (.t 14)),
 O 16 (.mov (.t 15)),
 OG 17 16 false (.faddr 2 (.t 1)),
 OG 18 16 false (.load K0 (.t 17)),
 OG 19 16 false (.len false (.t 18)),
 OG 20 16 false (.bin .gtr (.t 19) (.c (I 60))),
 O 21 (.pick (.t 16) (.c (.b true)) (.t 20)),
 O 22 (.mov (.t 21)),
 OG 23 22 false (.faddr 17 (.t 1)),
 OG 24 22 false (.load K0 (.t 23)),
 OG 25 22 false (.len false (.t 24)),
 OG 26 22 false (.bin .gtr (.t 25) (.c (I 20))),
 O 27 (.pick (.t 22) (.c (.b true)) (.t 26)),
 O 28 (.mov (.t 27)),
 OG 29 28 false (.faddr 18 (.t 1)),
 OG 30 28 false (.load K0 (.t 29)),
 OG 31 28 false (.len false (.t 30)),
 OG 32 28 false (.bin .gtr (.t 31) (.c (I 40))),
 O 33 (.pick (.t 28) (.c (.b true)) (.t 32)),
 O 34 (.mov (.t 33)),
 OG 35 34 false (.faddr 19 (.t 1)),
 OG 36 34 false (.load K0 (.t 35)),
 OG 37 34 false (.len false (.t 36)),
 OG 38 34 false (.bin .gtr (.t 37) (.c (I 150))),
 O 39 (.pick (.t 34) (.c (.b true)) (.t 38)),
 O 40 (.mov (.t 39)),
 OG 41 40 false (.faddr 20 (.t 1)),
 OG 42 40 false (.load K0 (.t 41)),
 OG 43 40 false (.call 0 1094 [(.t 42)]),
 O 44 (.pick (.t 40) (.c (.b true)) (.t 43)),
 O 45 (.mov (.t 44)),
 OG 46 45 false (.faddr 21 (.t 1)),
 OG 47 45 false (.load K0 (.t 46)),
 OG 48 45 false (.len false (.t 47)),
 OG 49 45 false (.bin .gtr (.t 48) (.c (I 100))),
 O 50 (.pick (.t 45) (.c (.b true)) (.t 49))] [49, 48, 47, 46, 45, 44, 43, 42, 41, 40, 39, 38, 37, 36, 35, 34, 33, 32, 31, 30, 29, 28, 27, 26, 25, 24, 23, 22, 21, 20, 19, 18, 17, 16, 15, 14, 13, 12, 11, 10, 9, 8, 7, 6]) (
 .cond (.t 50) (sq (.reg [
 O 2 (.mov (.c (.b true)))] []) (
 .ret))
 (.skip))) (
 sq (sq (.reg [
 O 3 (.mov (.c (I 0)))] []) (
 .block 0 (
 .loop [1, 3] L1090_0))) (
 sq (sq (.reg [
 O 4 (.mov (.c (I 0)))] []) (
 .block 2 (
 .loop [1, 4] L1090_1))) (
 sq (sq (.reg [
 O 5 (.mov (.c (I 0)))] []) (
 .block 4 (
 .loop [1, 5] L1090_2))) (
 sq (.reg [
 O 2 (.mov (.c (.b false)))] []) (
 .ret))))))⟩
def L1094_0 : PC :=
 sq (sq (.reg [
 O 7 (.mov (.t 3)),
 O 8 (.mov (.t 0)),
 O 9 (.len false (.t 8)),
 O 10 (.bin .lss (.t 7) (.t 9))] [9, 8, 7]) (
 .cond (.t 10) (.skip)
 (.exit 0))) (
 sq (.block 1 (
 sq (.reg [
 O 13 (.mov (.t 0)),
 O 14 (.mov (.t 3)),
 O 15 (.iaddr (K1 6) (.t 13) (.t 14)),
 O 16 (.faddr 5 (.t 15)),
 O 17 (.load K0 (.t 16)),
 O 18 (.len true (.t 17)),
 O 19 (.bin .gtr (.t 18) (.c (I 200)))] [18, 17, 16, 15, 14, 13]) (
 .cond (.t 19) (sq (.reg [
 O 2 (.mov (.c (.b true)))] []) (
 .ret))
 (.skip)))) (
 .reg [
 O 11 (.mov (.t 3)),
 O 12 (.bin .add (.t 11) (.c (I 1))),
 O 3 (.mov (.t 12))] [12, 11]))
def F1094 : PF := ⟨1, [.t 2],
 sq (.reg [
 O 2 (.mov (.c (.b false)))] [2]) (
 sq (sq (.reg [
 O 4 (.mov (.t 0)),
 O 5 (.len false (.t 4)),
 O 6 (.bin .gtr (.t 5) (.c (I 100)))] [5, 4]) (
 .cond (.t 6) (sq (.reg [
 O 2 (.mov (.c (.b true)))] []) (
 .ret))
 (.skip))) (
 sq (sq (.reg [
 O 3 (.mov (.c (I 0)))] []) (
 .block 0 (
 .loop [0, 3] L1094_0))) (
 sq (.reg [
 O 2 (.mov (.c (.b false)))] []) (
 .ret))))⟩
def L1095_0 : PC :=
 sq (sq (.reg [
 O 47 (.mov (.t 3)),
 O 48 (.faddr 17 (.t 1)),
 O 49 (.load K0 (.t 48)),
 O 50 (.len false (.t 49)),
 O 51 (.bin .lss (.t 47) (.t 50))] [50, 49, 48, 47]) (
 .cond (.t 51) (.skip)
 (.exit 0))) (
 sq (.block 1 (
 sq (.reg [
 O 54 (.faddr 17 (.t 1)),
 O 55 (.load K0 (.t 54)),
 O 56 (.mov (.t 3)),
 O 57 (.iaddr (K1 10) (.t 55) (.t 56)),
 O 58 (.faddr 0 (.t 57)),
 O 59 (.load K0 (.t 58)),
 O 60 (.len true (.t 59)),
 O 61 (.bin .gtr (.t 60) (.c (I 100))),
 O 62 (.mov (.t 61)),
 OG 63 62 false (.faddr 17 (.t 1)),
 OG 64 62 false (.load K0 (.t 63)),
 OG 65 62 false (.mov (.t 3)),
 OG 66 62 false (.iaddr (K1 10) (.t 64) (.t 65)),
 OG 67 62 false (.faddr 2 (.t 66)),
 OG 68 62 false (.load (K1 4) (.t 67)),
 OG 69 62 false (.call 0 919 [(.t 68), (.c (I 100))]),
 O 70 (.pick (.t 62) (.c (.b true)) (.t 69)),
 O 71 (.mov (.t 70)),
 OG 72 71 false (.faddr 17 (.t 1)),
 OG 73 71 false (.load K0 (.t 72)),
 OG 74 71 false (.mov (.t 3)),
 OG 75 71 false (.iaddr (K1 10) (.t 73) (.t 74)),
 OG 76 71 false (.faddr 6 (.t 75)),
 OG 77 71 false (.load (K1 4) (.t 76)),
 OG 78 71 false (.call 0 919 [(.t 77), (.c (I 100))]),
 O 79 (.pick (.t 71) (.c (.b true)) (.t 78))] [78, 77, 76, 75, 74, 73, 72, 71, 70, 69, 68, 67, 66, 65, 64, 63, 62, 61, 60, 59, 58, 57, 56, 55, 54]) (
 .cond (.t 79) (sq (.reg [
 O 2 (.mov (.c (.b true)))] []) (
 .ret))
 (.skip)))) (
 .reg [
 O 52 (.mov (.t 3)),
 O 53 (.bin .add (.t 52) (.c (I 1))),
 O 3 (.mov (.t 53))] [53, 52]))
def L1095_1 : PC :=
 sq (sq (.reg [
 O 80 (.mov (.t 4)),
 O 81 (.faddr 18 (.t 1)),
 O 82 (.load K0 (.t 81)),
 O 83 (.len false (.t 82)),
 O 84 (.bin .lss (.t 80) (.t 83))] [83, 82, 81, 80]) (
 .cond (.t 84) (.skip)
 (.exit 2))) (
 sq (.block 3 (
 sq (.reg [
 O 87 (.faddr 18 (.t 1)),
 O 88 (.load K0 (.t 87)),
 O 89 (.mov (.t 4)),
 O 90 (.iaddr (K1 6) (.t 88) (.t 89)),
 O 91 (.faddr 0 (.t 90)),
 O 92 (.load K0 (.t 91)),
 O 93 (.len true (.t 92)),
 O 94 (.bin .gtr (.t 93) (.c (I 100))),
 O 95 (.mov (.t 94)),
 OG 96 95 false (.faddr 18 (.t 1)),
 OG 97 95 false (.load K0 (.t 96)),
 OG 98 95 false (.mov (.t 4)),
 OG 99 95 false (.iaddr (K1 6) (.t 97) (.t 98)),
 OG 100 95 false (.faddr 2 (.t 99)),
 OG 101 95 false (.load (K1 4) (.t 100)),
 OG 102 95 false (.call 0 919 [(.t 101), (.c (I 100))]),
 O 103 (.pick (.t 95) (.c (.b true)) (.t 102))] [102, 101, 100, 99, 98, 97, 96, 95, 94, 93, 92, 91, 90, 89, 88, 87]) (
 .cond (.t 103) (sq (.reg [
 O 2 (.mov (.c (.b true)))] []) (
 .ret))
 (.skip)))) (
 .reg [
 O 85 (.mov (.t 4)),
 O 86 (.bin .add (.t 85) (.c (I 1))),
 O 4 (.mov (.t 86))] [86, 85]))
def F1095 : PF := ⟨1, [.t 2],
 sq (.reg [
 O 1 (.box (K1 19) (.t 0)),
 O 2 (.mov (.c (.b false)))] [2, 0]) (
 sq (sq (.reg [
 O 5 (.faddr 0 (.t 1)),
 O 6 (.load K0 (.t 5)),
 O 7 (.len true (.t 6)),
 O 8 (.bin .gtr (.t 7) (.c (I 100))),
 O 9 (.mov (.t 8)),
 OG 10 9 false (.faddr 1 (.t 1)),
 OG 11 9 false (.load K0 (.t 10)),
 OG 12 9 false (.len true (.t 11)),
 OG 13 9 false (.bin .gtr (.t 12) (.c (I 100))),
 O 14 (.pick (.t 9) (.c (.b true)) (.t 13)),
 O 15 (.mov (.t 14)),
 OG 16 15 false (.faddr 2 (.t 1)),
 OG 17 15 false (.load K0 (.t 16)),
 OG 18 15 false (.len true (.t 17)),
 OG 19 15 false (.bin .gtr (.t 18) (.c (I 100))),
 O 20 (.pick (.t 15) (.c (.b true)) (.t 19)),
 O 21 (.mov (.t 20)),
 OG 22 21 false (.faddr 7 (.t 1)),
 OG 23 21 false (.faddr 0 (.t 22)),
 OG 24 21 false (.load K0 (.t 23)),
 OG 25 21 false (.len false (.t 24)),
 OG 26 21 false (.bin .gtr (.t 25) (.c (I 20))),
 O 27 (.pick (.t 21) (.c (.b true)) (.t 26)),
 O 28 (.mov (.t 27)),
 OG 29 28 false (.faddr 12 (.t 1)),
 OG 30 28 false (.faddr 0 (.t 29)),
 OG 31 28 false (.load K0 (.t 30)),
 OG 32 28 false (.len false (.t 31)),
 OG 33 28 false (.bin .gtr (.t 32) (.c (I 20))),
 O 34 (.pick (.t 28) (.c (.b true)) (.t 33)),
 O 35 (.mov (.t 34)),
 OG 36 35 false (.faddr 17 (.t 1)),
 OG 37 35 false (.load K0 (.t 36)),
 OG 38 35 false (.len false (.t 37)),
 OG 39 35 false (.bin .gtr (.t 38) (.c (I 10))),
 O 40 (.pick (.t 35) (.c (.b true)) (.t 39)),
 O 41 (.mov (.t 40)),
 OG 42 41 false (.faddr 18 (.t 1)),
 OG 43 41 false (.load K0 (.t 42)),
 OG 44 41 false (.len false (.t 43)),
 OG 45 41 false (.bin .gtr (.t 44) (.c (I 10))),
 O 46 (.pick (.t 41) (.c (.b true)) (.t 45))] [45, 44, 43, 42, 41, 40, 39, 38, 37, 36, 35, 34, 33, 32, 31, 30, 29, 28, 27, 26, 25, 24, 23, 22, 21, 20, 19, 18, 17, 16, 15, 14, 13, 12, 11, 10, 9, 8, 7, 6, 5]) (
 .cond (.t 46) (sq (.reg [
 O 2 (.mov (.c (.b true)))] []) (
 .ret))
 (.skip))) (
 sq (sq (.reg [
 O 3 (.mov (.c (I 0)))] []) (
 .block 0 (
 .loop [1, 3] L1095_0))) (
 sq (sq (.reg [
 O 4 (.mov (.c (I 0)))] []) (
 .block 2 (
 .loop [1, 4] L1095_1))) (
 sq (.reg [
 O 2 (.mov (.c (.b false)))] []) (
 .ret)))))⟩
def L1096_0 : PC :=
 sq (sq (.reg [
 O 20 (.mov (.t 3)),
 O 21 (.faddr 8 (.t 1)),
 O 22 (.load K0 (.t 21)),
 O 23 (.len false (.t 22)),
 O 24 (.bin .lss (.t 20) (.t 23))] [23, 22, 21, 20]) (
 .cond (.t 24) (.skip)
 (.exit 0))) (
 sq (.block 1 (
 sq (.reg [
 O 27 (.faddr 8 (.t 1)),
 O 28 (.load K0 (.t 27)),
 O 29 (.mov (.t 3)),
 O 30 (.iaddr (K1 3) (.t 28) (.t 29)),
 O 31 (.faddr 2 (.t 30)),
 O 32 (.load K0 (.t 31)),
 O 33 (.len true (.t 32)),
 O 34 (.bin .gtr (.t 33) (.c (I 100)))] [33, 32, 31, 30, 29, 28, 27]) (
 .cond (.t 34) (sq (.reg [
 O 2 (.mov (.c (.b true)))] []) (
 .ret))
 (.skip)))) (
 .reg [
 O 25 (.mov (.t 3)),
 O 26 (.bin .add (.t 25) (.c (I 1))),
 O 3 (.mov (.t 26))] [26, 25]))
def F1096 : PF := ⟨1, [.t 2],
 sq (.reg [
 O 1 (.box (K1 10) (.t 0)),
 O 2 (.mov (.c (.b false)))] [2, 0]) (
 sq (sq (.reg [
 O 4 (.faddr 8 (.t 1)),
 O 5 (.load K0 (.t 4)),
 O 6 (.len false (.t 5)),
 O 7 (.bin .gtr (.t 6) (.c (I 30))),
 O 8 (.mov (.t 7)),
 OG 9 8 false (.faddr 6 (.t 1)),
 OG 10 8 false (.load K0 (.t 9)),
 OG 11 8 false (.len true (.t 10)),
 OG 12 8 false (.bin .gtr (.t 11) (.c (I 1000))),
 O 13 (.pick (.t 8) (.c (.b true)) (.t 12)),
 O 14 (.mov (.t 13)),
 OG 15 14 false (.faddr 7 (.t 1)),
 OG 16 14 false (.load K0 (.t 15)),
 OG 17 14 false (.len true (.t 16)),
 OG 18 14 false (.bin .gtr (.t 17) (.c (I 1000))),
 O 19 (.pick (.t 14) (.c (.b true)) (.t 18))] [18, 17, 16, 15, 14, 13, 12, 11, 10, 9, 8, 7, 6, 5, 4]) (
 .cond (.t 19) (sq (.reg [
 O 2 (.mov (.c (.b true)))] []) (
 .ret))
 (.skip))) (
 sq (sq (.reg [
 O 3 (.mov (.c (I 0)))] []) (
 .block 0 (
 .loop [1, 3] L1096_0))) (
 sq (.reg [
 O 2 (.mov (.c (.b false)))] []) (
 .ret))))⟩
end Go.Sim
end
section
namespace Go.Sim
def F66 : PF := ⟨1, [.t 2],
 sq (.reg [
 O 2 (.mov (.c (.b false)))] [2]) (
 sq (.reg [
 O 3 (.mov (.t 0)),
 O 4 (.bin .rem (.t 3) (.c (I 4))),
 O 5 (.bin .eql (.t 4) (.c (I 0))),
 O 6 (.mov (.t 5)),
 OG 7 6 true (.mov (.t 0)),
 OG 8 6 true (.bin .rem (.t 7) (.c (I 100))),
 OG 9 6 true (.bin .neq (.t 8) (.c (I 0))),
 OG 10 6 true (.mov (.t 9)),
 OG 11 10 false (.mov (.t 0)),
 OG 12 10 false (.bin .rem (.t 11) (.c (I 400))),
 OG 13 10 false (.bin .eql (.t 12) (.c (I 0))),
 OG 14 6 true (.pick (.t 10) (.c (.b true)) (.t 13)),
 O 15 (.pick (.t 6) (.t 14) (.c (.b false))),
 O 2 (.mov (.t 15))] [15, 14, 13, 12, 11, 10, 9, 8, 7, 6, 5, 4, 0, 3]) (
 .ret))⟩
def F544 : PF := ⟨1, [.t 2],
 sq (.reg [
 O 2 (.mov (.c (.b false)))] [2]) (
 sq (.reg [
 O 3 (.mov (.t 0)),
 O 4 (.bin .geq (.t 3) (.c (I 0))),
 O 5 (.mov (.t 4)),
 OG 6 5 true (.mov (.t 0)),
 OG 7 5 true (.bin .leq (.t 6) (.c (I 73048))),
 O 8 (.pick (.t 5) (.t 7) (.c (.b false))),
 O 2 (.mov (.t 8))] [8, 7, 6, 5, 4, 0, 3]) (
 .ret))⟩
def F684 : PF := ⟨3, [.t 6],
 sq (.reg [
 O 3 (.box (K1 22) (.t 0)),
 O 6 (.mov (.c (.b false)))] [6, 0]) (
 sq (.reg [
 O 10 (.load (K1 22) (.t 3)),
 O 11 (.mov (.t 1)),
 O 12 (.call 0 683 [(.t 10), (.t 11)]),
 O 9 (.mov (.t 12)),
 O 13 (.ext (.t 9) 0),
 O 14 (.ext (.t 9) 1),
 O 7 (.alloc (K1 7) (.a [(I 0), (I 0), (I 0), (I 0), (.s []), (.s []), (.s [])])),
 E (.store (K1 7) (.t 7) (.t 13)),
 O 8 (.mov (.t 14))] [14, 13, 9, 12, 1, 11, 3, 10]) (
 sq (.reg [
 O 15 (.mov (.t 8)),
 O 16 (.mov (.t 15)),
 OG 17 16 true (.faddr 1 (.t 7)),
 OG 18 16 true (.load K0 (.t 17)),
 OG 19 16 true (.mov (.t 2)),
 OG 20 16 true (.bin .leq (.t 18) (.t 19)),
 O 21 (.pick (.t 16) (.t 20) (.c (.b false))),
 O 22 (.mov (.t 21)),
 OG 23 22 true (.faddr 2 (.t 7)),
 OG 24 22 true (.load K0 (.t 23)),
 OG 25 22 true (.bin .eql (.t 24) (.c (I 0))),
 OG 26 22 true (.mov (.t 25)),
 OG 27 26 false (.faddr 2 (.t 7)),
 OG 28 26 false (.load K0 (.t 27)),
 OG 29 26 false (.mov (.t 2)),
 OG 30 26 false (.bin .gtr (.t 28) (.t 29)),
 OG 31 22 true (.pick (.t 26) (.c (.b true)) (.t 30)),
 O 32 (.pick (.t 22) (.t 31) (.c (.b false))),
 O 6 (.mov (.t 32))] [32, 31, 30, 29, 28, 27, 26, 25, 24, 23, 22, 21, 20, 2, 19, 18, 7, 17, 16, 8, 15]) (
 .ret)))⟩
def L1030_0 : PC :=
 sq (sq (.reg [
 O 67 (.mov (.t 18)),
 O 68 (.mov (.t 16)),
 O 69 (.len false (.t 68)),
 O 70 (.bin .lss (.t 67) (.t 69))] [69, 68, 67]) (
 .cond (.t 70) (.skip)
 (.exit 0))) (
 sq (.block 1 (
 sq (.reg [
 O 73 (.mov (.t 16)),
 O 74 (.mov (.t 18)),
 O 75 (.iaddr K0 (.t 73) (.t 74)),
 O 76 (.load K0 (.t 75)),
 O 77 (.agg [(I 0), (I 0)] [(0, K0, (.c (I 2))), (1, K0, (.t 76))]),
 O 19 (.alloc (K1 2) (.a [(I 0), (I 0)])),
 E (.store (K1 2) (.t 19) (.t 77))] [77, 76, 75, 74, 73]) (
 sq (sq (.reg [
 O 78 (.load (K1 2) (.t 19)),
 O 79 (.call 0 1038 [(.t 78)]),
 O 80 (.un .not (.t 79))] [79, 78]) (
 .cond (.t 80) (sq (.reg [
 O 8 (.mov (.c (.l (K1 2) [] true))),
 O 9 (.mov (.c (I 6)))] []) (
 .ret))
 (.skip))) (
 .reg [
 O 81 (.mov (.t 17)),
 O 82 (.load (K1 2) (.t 19)),
 O 83 (.bsl (K1 2) (.a [(I 0), (I 0)]) 1 [(0, (.t 82))]),
 O 84 (.app (K1 2) 16 (.t 81) (.t 83)),
 O 17 (.mov (.t 84))] [84, 83, 19, 82, 81])))) (
 .reg [
 O 71 (.mov (.t 18)),
 O 72 (.bin .add (.t 71) (.c (I 1))),
 O 18 (.mov (.t 72))] [72, 71]))
def F1030 : PF := ⟨4, [.t 8, .t 9],
 sq (.reg [
 O 4 (.box (K1 22) (.t 0)),
 O 8 (.mov (.c (.l (K1 2) [] true))),
 O 9 (.mov (.c (I 0)))] [9, 8, 0]) (
 sq (.reg [
 O 21 (.load (K1 22) (.t 4)),
 O 22 (.mov (.t 1)),
 O 23 (.call 0 683 [(.t 21), (.t 22)]),
 O 20 (.mov (.t 23)),
 O 24 (.ext (.t 20) 0),
 O 25 (.ext (.t 20) 1),
 O 10 (.alloc (K1 7) (.a [(I 0), (I 0), (I 0), (I 0), (.s []), (.s []), (.s [])])),
 E (.store (K1 7) (.t 10) (.t 24)),
 O 11 (.mov (.t 25))] [25, 24, 20, 23, 22, 21]) (
 sq (sq (.reg [
 O 26 (.mov (.t 11)),
 O 27 (.un .not (.t 26))] [11, 26]) (
 .cond (.t 27) (sq (.reg [
 O 8 (.mov (.c (.l (K1 2) [] true))),
 O 9 (.mov (.c (I 11)))] []) (
 .ret))
 (.skip))) (
 sq (sq (.reg [
 O 28 (.mov (.t 2)),
 O 29 (.call 0 544 [(.t 28)]),
 O 30 (.un .not (.t 29)),
 O 31 (.mov (.t 30)),
 OG 32 31 false (.load (K1 22) (.t 4)),
 OG 33 31 false (.mov (.t 1)),
 OG 34 31 false (.mov (.t 2)),
 OG 35 31 false (.call 0 684 [(.t 32), (.t 33), (.t 34)]),
 OG 36 31 false (.un .not (.t 35)),
 O 37 (.pick (.t 31) (.c (.b true)) (.t 36))] [36, 35, 34, 33, 32, 31, 30, 29, 28]) (
 .cond (.t 37) (sq (.reg [
 O 8 (.mov (.c (.l (K1 2) [] true))),
 O 9 (.mov (.c (I 16)))] []) (
 .ret))
 (.skip))) (
 sq (.reg [
 O 38 (.mov (.t 2)),
 O 39 (.call 0 1033 [(.t 38)]),
 O 12 (.mov (.t 39))] [39, 38]) (
 sq (.reg [
 O 41 (.faddr 19 (.t 4)),
 O 42 (.load K0 (.t 41)),
 O 43 (.mov (.t 1)),
 O 44 (.mov (.t 12)),
 O 45 (.mov (.t 2)),
 O 46 (.call 0 1035 [(.t 42), (.t 43), (.t 44), (.t 45)]),
 O 40 (.mov (.t 46)),
 O 47 (.ext (.t 40) 0),
 O 48 (.ext (.t 40) 1),
 O 13 (.mov (.t 47)),
 O 14 (.mov (.t 48))] [14, 48, 47, 40, 46, 45, 44, 43, 42, 41]) (
 sq (.reg [
 O 49 (.faddr 19 (.t 4)),
 O 50 (.load K0 (.t 49)),
 O 51 (.mov (.t 1)),
 O 52 (.mov (.t 12)),
 O 53 (.faddr 1 (.t 10)),
 O 54 (.load K0 (.t 53)),
 O 55 (.minmax true [(.t 52), (.t 54)]),
 O 56 (.mov (.t 2)),
 O 57 (.call 0 1037 [(.t 50), (.t 51), (.t 55), (.t 56)]),
 O 58 (.call 0 1036 [(.t 57)]),
 O 15 (.mov (.t 58))] [58, 57, 56, 55, 54, 53, 52, 51, 50, 49]) (
 sq (.reg [
 O 59 (.faddr 19 (.t 4)),
 O 60 (.load K0 (.t 59)),
 O 61 (.mov (.t 1)),
 O 62 (.call 0 1027 [(.t 60), (.t 61)]),
 O 63 (.mov (.t 15)),
 O 64 (.mov (.t 13)),
 O 65 (.mov (.t 3)),
 O 66 (.bsl K0 (I 0) 4 [(0, (.t 62)), (1, (.t 63)), (2, (.t 64)), (3, (.t 65))]),
 O 16 (.mov (.t 66))] [66, 3, 65, 13, 64, 15, 63, 62, 61, 60, 59]) (
 sq (.reg [
 O 17 (.mov (.c (.l (K1 2) [] true)))] []) (
 sq (sq (.reg [
 O 18 (.mov (.c (I 0)))] []) (
 .block 0 (
 .loop [1, 2, 4, 10, 12, 16, 17, 18] L1030_0))) (
 sq (.regD [
 O 85 (.mov (.t 17)),
 O 86 (.faddr 19 (.t 4)),
 O 87 (.load K0 (.t 86)),
 O 88 (.mov (.t 1)),
 O 89 (.mov (.t 12)),
 O 90 (.mov (.t 2)),
 O 91 (.call 0 1039 [(.t 87), (.t 88), (.t 89), (.t 90)]),
 O 92 (.agg [(I 0), (I 0)] [(0, K0, (.c (I 1))), (1, K0, (.t 91))]),
 O 93 (.mov (.t 2)),
 O 94 (.faddr 1 (.t 10)),
 O 95 (.load K0 (.t 94)),
 O 96 (.bin .sub (.t 93) (.t 95)),
 O 97 (.agg [(I 0), (I 0)] [(0, K0, (.c (I 1))), (1, K0, (.t 96))]),
 O 98 (.mov (.t 2)),
 O 99 (.agg [(I 0), (I 0)] [(0, K0, (.c (I 4))), (1, K0, (.t 98))]),
 O 100 (.bsl (K1 2) (.a [(I 0), (I 0)]) 3 [(0, (.t 92)), (1, (.t 97)), (2, (.t 99))]),
 O 101 (.app (K1 2) 16 (.t 85) (.t 100)),
 O 17 (.mov (.t 101))] [0, 0, 2, 0, 0, 0, 62, 126, 0, 0, 512, 1792, 3840, 0, 8192, 32766, 65535, 131071] [101, 100, 99, 98, 97, 96, 95, 10, 94, 93, 92, 91, 2, 90, 12, 89, 1, 88, 87, 4, 86, 85]) (
 sq (.reg [
 O 102 (.mov (.t 17)),
 O 8 (.mov (.t 102)),
 O 9 (.mov (.c (I 0)))] [17, 102]) (
 .ret))))))))))))⟩
def F1033 : PF := ⟨1, [.t 2],
 sq (.reg [
 O 2 (.mov (.c (I 0)))] [2]) (
 sq (.reg [
 O 7 (.mov (.t 0)),
 O 8 (.call 0 1045 [(.t 7)]),
 O 6 (.mov (.t 8)),
 O 9 (.ext (.t 6) 0),
 O 10 (.ext (.t 6) 1),
 O 11 (.ext (.t 6) 2),
 O 3 (.mov (.t 9)),
 O 4 (.mov (.t 10)),
 O 5 (.mov (.t 11))] [4, 3, 11, 10, 9, 6, 8, 7]) (
 sq (.reg [
 O 12 (.mov (.t 0)),
 O 13 (.mov (.t 5)),
 O 14 (.bin .sub (.t 12) (.t 13)),
 O 15 (.bin .add (.t 14) (.c (I 1))),
 O 2 (.mov (.t 15))] [15, 14, 5, 13, 0, 12]) (
 .ret)))⟩
def L1035_0 : PC :=
 sq (sq (.reg [
 O 37 (.mov (.t 13)),
 O 38 (.mov (.t 0)),
 O 39 (.mov (.t 12)),
 O 40 (.iaddr (K1 10) (.t 38) (.t 39)),
 O 41 (.faddr 8 (.t 40)),
 O 42 (.load K0 (.t 41)),
 O 43 (.len false (.t 42)),
 O 44 (.bin .lss (.t 37) (.t 43))] [43, 42, 41, 40, 39, 38, 37]) (
 .cond (.t 44) (.skip)
 (.exit 2))) (
 sq (.block 3 (
 sq (.reg [
 O 47 (.mov (.t 0)),
 O 48 (.mov (.t 12)),
 O 49 (.iaddr (K1 10) (.t 47) (.t 48)),
 O 50 (.faddr 8 (.t 49)),
 O 51 (.load K0 (.t 50)),
 O 52 (.mov (.t 13)),
 O 53 (.iaddr (K1 3) (.t 51) (.t 52)),
 O 54 (.load (K1 3) (.t 53)),
 O 14 (.alloc (K1 3) (.a [(I 0), (I 0), (.s [])])),
 E (.store (K1 3) (.t 14) (.t 54))] [54, 53, 52, 51, 50, 49, 48, 47]) (
 sq (sq (.reg [
 O 55 (.faddr 0 (.t 14)),
 O 56 (.load K0 (.t 55)),
 O 57 (.mov (.t 1)),
 O 58 (.bin .eql (.t 56) (.t 57)),
 O 59 (.mov (.t 58)),
 OG 60 59 true (.faddr 1 (.t 14)),
 OG 61 59 true (.load K0 (.t 60)),
 OG 62 59 true (.bin .gtr (.t 61) (.c (I 0))),
 O 63 (.pick (.t 59) (.t 62) (.c (.b false)))] [62, 61, 60, 59, 58, 57, 56, 55]) (
 .cond (.t 63) (.reg [
 O 64 (.mov (.t 10)),
 O 65 (.faddr 1 (.t 14)),
 O 66 (.load K0 (.t 65)),
 O 67 (.bin .add (.t 64) (.t 66)),
 O 10 (.mov (.t 67))] [67, 66, 65, 64])
 (.skip))) (
 sq (.reg [
 O 68 (.faddr 0 (.t 14)),
 O 69 (.load K0 (.t 68)),
 O 70 (.mov (.t 1)),
 O 71 (.bin .eql (.t 69) (.t 70)),
 O 72 (.mov (.t 71)),
 OG 73 72 true (.faddr 1 (.t 14)),
 OG 74 72 true (.load K0 (.t 73)),
 OG 75 72 true (.bin .lss (.t 74) (.c (I 0))),
 O 76 (.pick (.t 72) (.t 75) (.c (.b false)))] [75, 74, 73, 72, 71, 70, 69, 68]) (
 .cond (.t 76) (.reg [
 O 77 (.mov (.t 11)),
 O 78 (.faddr 1 (.t 14)),
 O 79 (.load K0 (.t 78)),
 O 80 (.bin .sub (.t 77) (.t 79)),
 O 11 (.mov (.t 80))] [80, 79, 14, 78, 77])
 (.skip)))))) (
 .reg [
 O 45 (.mov (.t 13)),
 O 46 (.bin .add (.t 45) (.c (I 1))),
 O 13 (.mov (.t 46))] [46, 45]))
def L1035_1 : PC :=
 sq (sq (.reg [
 O 15 (.mov (.t 12)),
 O 16 (.mov (.t 0)),
 O 17 (.len false (.t 16)),
 O 18 (.bin .lss (.t 15) (.t 17))] [17, 16, 15]) (
 .cond (.t 18) (.skip)
 (.exit 0))) (
 sq (.block 1 (
 sq (sq (.reg [
 O 21 (.mov (.t 0)),
 O 22 (.mov (.t 12)),
 O 23 (.iaddr (K1 10) (.t 21) (.t 22)),
 O 24 (.faddr 1 (.t 23)),
 O 25 (.load K0 (.t 24)),
 O 26 (.mov (.t 2)),
 O 27 (.bin .lss (.t 25) (.t 26)),
 O 28 (.mov (.t 27)),
 OG 29 28 false (.mov (.t 0)),
 OG 30 28 false (.mov (.t 12)),
 OG 31 28 false (.iaddr (K1 10) (.t 29) (.t 30)),
 OG 32 28 false (.faddr 1 (.t 31)),
 OG 33 28 false (.load K0 (.t 32)),
 OG 34 28 false (.mov (.t 3)),
 OG 35 28 false (.bin .gtr (.t 33) (.t 34)),
 O 36 (.pick (.t 28) (.c (.b true)) (.t 35))] [35, 34, 33, 32, 31, 30, 29, 28, 27, 26, 25, 24, 23, 22, 21]) (
 .cond (.t 36) (.exit 1)
 (.skip))) (
 sq (.reg [
 O 13 (.mov (.c (I 0)))] []) (
 .block 2 (
 .loop [0, 1, 2, 3, 10, 11, 12, 13] L1035_0))))) (
 .reg [
 O 19 (.mov (.t 12)),
 O 20 (.bin .add (.t 19) (.c (I 1))),
 O 12 (.mov (.t 20))] [20, 19]))
def F1035 : PF := ⟨4, [.t 8, .t 9],
 sq (.reg [
 O 8 (.mov (.c (I 0))),
 O 9 (.mov (.c (I 0)))] [9, 8]) (
 sq (.reg [
 O 10 (.mov (.c (I 0))),
 O 11 (.mov (.c (I 0)))] []) (
 sq (sq (.reg [
 O 12 (.mov (.c (I 0)))] []) (
 .block 0 (
 .loop [0, 1, 2, 3, 10, 11, 12] L1035_1))) (
 sq (.reg [
 O 81 (.mov (.t 10)),
 O 82 (.mov (.t 11)),
 O 8 (.mov (.t 81)),
 O 9 (.mov (.t 82))] [11, 82, 10, 81]) (
 .ret))))⟩
def L1036_0 : PC :=
 sq (sq (.reg [
 O 5 (.mov (.t 4)),
 O 6 (.mov (.t 0)),
 O 7 (.len false (.t 6)),
 O 8 (.bin .lss (.t 5) (.t 7))] [7, 6, 5]) (
 .cond (.t 8) (.skip)
 (.exit 0))) (
 sq (.block 1 (
 sq (.reg [
 O 11 (.mov (.t 4)),
 O 12 (.bin .eql (.t 11) (.c (I 0))),
 O 13 (.mov (.t 12)),
 OG 14 13 false (.mov (.t 0)),
 OG 15 13 false (.mov (.t 4)),
 OG 16 13 false (.iaddr K0 (.t 14) (.t 15)),
 OG 17 13 false (.load K0 (.t 16)),
 OG 18 13 false (.mov (.t 3)),
 OG 19 13 false (.bin .lss (.t 17) (.t 18)),
 O 20 (.pick (.t 13) (.c (.b true)) (.t 19))] [19, 18, 17, 16, 15, 14, 13, 12, 11]) (
 .cond (.t 20) (.reg [
 O 21 (.mov (.t 0)),
 O 22 (.mov (.t 4)),
 O 23 (.iaddr K0 (.t 21) (.t 22)),
 O 24 (.load K0 (.t 23)),
 O 3 (.mov (.t 24))] [24, 23, 22, 21])
 (.skip)))) (
 .reg [
 O 9 (.mov (.t 4)),
 O 10 (.bin .add (.t 9) (.c (I 1))),
 O 4 (.mov (.t 10))] [10, 9]))
def F1036 : PF := ⟨1, [.t 2],
 sq (.reg [
 O 2 (.mov (.c (I 0)))] [2]) (
 sq (.reg [
 O 3 (.mov (.c (I 0)))] []) (
 sq (sq (.reg [
 O 4 (.mov (.c (I 0)))] []) (
 .block 0 (
 .loop [0, 3, 4] L1036_0))) (
 sq (.reg [
 O 25 (.mov (.t 3)),
 O 2 (.mov (.t 25))] [3, 25]) (
 .ret))))⟩
def L1037_0 : PC :=
 sq (sq (.reg [
 O 54 (.mov (.t 12)),
 O 55 (.mov (.t 3)),
 O 56 (.bin .leq (.t 54) (.t 55)),
 O 57 (.mov (.t 56)),
 OG 58 57 true (.mov (.t 11)),
 OG 59 57 true (.bin .neq (.t 58) (.c (I 0))),
 O 60 (.pick (.t 57) (.t 59) (.c (.b false)))] [59, 58, 57, 56, 55, 54]) (
 .cond (.t 60) (.skip)
 (.exit 2))) (
 sq (.block 3 (
 .reg [
 O 63 (.mov (.t 9)),
 O 64 (.mov (.t 12)),
 O 65 (.mov (.t 2)),
 O 66 (.bin .sub (.t 64) (.t 65)),
 O 67 (.mov (.t 9)),
 O 68 (.mov (.t 12)),
 O 69 (.mov (.t 2)),
 O 70 (.bin .sub (.t 68) (.t 69)),
 O 71 (.iaddr K0 (.t 67) (.t 70)),
 O 72 (.load K0 (.t 71)),
 O 73 (.mov (.t 11)),
 O 74 (.bin .add (.t 72) (.t 73)),
 O 75 (.iaddr K0 (.t 63) (.t 66)),
 E (.store K0 (.t 75) (.t 74))] [75, 74, 73, 72, 71, 70, 69, 68, 67, 66, 65, 64, 63])) (
 .reg [
 O 61 (.mov (.t 12)),
 O 62 (.bin .add (.t 61) (.c (I 1))),
 O 12 (.mov (.t 62))] [62, 61]))
def L1037_1 : PC :=
 sq (sq (.reg [
 O 35 (.mov (.t 10)),
 O 36 (.mov (.t 0)),
 O 37 (.len false (.t 36)),
 O 38 (.bin .lss (.t 35) (.t 37))] [37, 36, 35]) (
 .cond (.t 38) (.skip)
 (.exit 0))) (
 sq (.block 1 (
 sq (.reg [
 O 41 (.mov (.t 0)),
 O 42 (.mov (.t 10)),
 O 43 (.iaddr (K1 10) (.t 41) (.t 42)),
 O 44 (.load (K1 10) (.t 43)),
 O 45 (.mov (.t 1)),
 O 46 (.call 0 1034 [(.t 44), (.t 45)]),
 O 11 (.mov (.t 46))] [46, 45, 44, 43, 42, 41]) (
 sq (.reg [
 O 47 (.mov (.t 2)),
 O 48 (.mov (.t 0)),
 O 49 (.mov (.t 10)),
 O 50 (.iaddr (K1 10) (.t 48) (.t 49)),
 O 51 (.faddr 2 (.t 50)),
 O 52 (.load K0 (.t 51)),
 O 53 (.minmax true [(.t 47), (.t 52)]),
 O 12 (.mov (.t 53))] [53, 52, 51, 50, 49, 48, 47]) (
 .block 2 (
 .loop [0, 1, 2, 3, 9, 10, 11, 12] L1037_0))))) (
 .reg [
 O 39 (.mov (.t 10)),
 O 40 (.bin .add (.t 39) (.c (I 1))),
 O 10 (.mov (.t 40))] [40, 39]))
def F1037 : PF := ⟨4, [.t 8],
 sq (.reg [
 O 8 (.mov (.c (.l K0 [] true)))] [8]) (
 sq (sq (.reg [
 O 13 (.mov (.t 2)),
 O 14 (.bin .lss (.t 13) (.c (I 0))),
 O 15 (.mov (.t 14)),
 OG 16 15 false (.mov (.t 3)),
 OG 17 15 false (.bin .gtr (.t 16) (.c (I 73048))),
 O 18 (.pick (.t 15) (.c (.b true)) (.t 17)),
 O 19 (.mov (.t 18)),
 OG 20 19 false (.mov (.t 2)),
 OG 21 19 false (.mov (.t 3)),
 OG 22 19 false (.bin .gtr (.t 20) (.t 21)),
 O 23 (.pick (.t 19) (.c (.b true)) (.t 22)),
 O 24 (.mov (.t 23)),
 OG 25 24 false (.mov (.t 3)),
 OG 26 24 false (.mov (.t 2)),
 OG 27 24 false (.bin .sub (.t 25) (.t 26)),
 OG 28 24 false (.bin .geq (.t 27) (.c (I 4000))),
 O 29 (.pick (.t 24) (.c (.b true)) (.t 28))] [28, 27, 26, 25, 24, 23, 22, 21, 20, 19, 18, 17, 16, 15, 14, 13]) (
 .cond (.t 29) (sq (.reg [
 O 8 (.mov (.c (.l K0 [] true)))] []) (
 .ret))
 (.skip))) (
 sq (.reg [
 O 30 (.mov (.t 3)),
 O 31 (.mov (.t 2)),
 O 32 (.bin .sub (.t 30) (.t 31)),
 O 33 (.bin .add (.t 32) (.c (I 1))),
 O 34 (.mksl K0 8 (I 0) (.t 33) (.t 33)),
 O 9 (.mov (.t 34))] [34, 33, 32, 31, 30]) (
 sq (sq (.reg [
 O 10 (.mov (.c (I 0)))] []) (
 .block 0 (
 .loop [0, 1, 2, 3, 9, 10] L1037_1))) (
 sq (.reg [
 O 76 (.mov (.t 9)),
 O 8 (.mov (.t 76))] [9, 76]) (
 .ret)))))⟩
def F1038 : PF := ⟨1, [.t 2],
 sq (.reg [
 O 1 (.box (K1 2) (.t 0)),
 O 2 (.mov (.c (.b false)))] [2, 0]) (
 sq (sq (.reg [
 O 3 (.faddr 0 (.t 1)),
 O 4 (.load K0 (.t 3))] [3]) (
 .block 0 (
 sq (.reg [
 O 6 (.bin .eql (.t 4) (.c (I 1))),
 O 5 (.mov (.t 6))] [6]) (
 .cond (.t 5) (sq (.reg [
 O 2 (.mov (.c (.b true)))] []) (
 .ret))
 (sq (.reg [
 O 8 (.bin .eql (.t 4) (.c (I 2))),
 O 7 (.mov (.t 8))] [8]) (
 .cond (.t 7) (sq (.reg [
 O 9 (.faddr 1 (.t 1)),
 O 10 (.load K0 (.t 9)),
 O 11 (.call 0 1046 [(.t 10), (.c (I 1000000000000))]),
 O 2 (.mov (.t 11))] [11, 10, 1, 9]) (
 .ret))
 (sq (.reg [
 O 13 (.bin .eql (.t 4) (.c (I 3))),
 O 12 (.mov (.t 13))] [13]) (
 .cond (.t 12) (sq (.reg [
 O 14 (.faddr 1 (.t 1)),
 O 15 (.load K0 (.t 14)),
 O 16 (.call 0 1046 [(.t 15), (.c (I 1000000000))]),
 O 2 (.mov (.t 16))] [16, 15, 1, 14]) (
 .ret))
 (sq (.reg [
 O 18 (.bin .eql (.t 4) (.c (I 4))),
 O 17 (.mov (.t 18))] [18]) (
 .cond (.t 17) (sq (.reg [
 O 19 (.faddr 1 (.t 1)),
 O 20 (.load K0 (.t 19)),
 O 21 (.call 0 544 [(.t 20)]),
 O 2 (.mov (.t 21))] [21, 20, 1, 19]) (
 .ret))
 (sq (.reg [
 O 23 (.bin .eql (.t 4) (.c (I 5))),
 O 22 (.mov (.t 23))] [4, 23]) (
 .cond (.t 22) (sq (.reg [
 O 24 (.faddr 1 (.t 1)),
 O 25 (.load K0 (.t 24)),
 O 26 (.bin .eql (.t 25) (.c (I 0))),
 O 27 (.mov (.t 26)),
 OG 28 27 false (.faddr 1 (.t 1)),
 OG 29 27 false (.load K0 (.t 28)),
 OG 30 27 false (.bin .eql (.t 29) (.c (I 1))),
 O 31 (.pick (.t 27) (.c (.b true)) (.t 30)),
 O 2 (.mov (.t 31))] [31, 30, 29, 28, 27, 26, 25, 1, 24]) (
 .ret))
 (.skip))))))))))))) (
 sq (.reg [
 O 2 (.mov (.c (.b false)))] []) (
 .ret)))⟩
def L1039_0 : PC :=
 sq (sq (.reg [
 O 11 (.mov (.t 10)),
 O 12 (.mov (.t 0)),
 O 13 (.len false (.t 12)),
 O 14 (.bin .lss (.t 11) (.t 13))] [13, 12, 11]) (
 .cond (.t 14) (.skip)
 (.exit 0))) (
 sq (.block 1 (
 sq (.reg [
 O 17 (.mov (.t 0)),
 O 18 (.mov (.t 10)),
 O 19 (.iaddr (K1 10) (.t 17) (.t 18)),
 O 20 (.faddr 1 (.t 19)),
 O 21 (.load K0 (.t 20)),
 O 22 (.mov (.t 2)),
 O 23 (.bin .geq (.t 21) (.t 22)),
 O 24 (.mov (.t 23)),
 OG 25 24 true (.mov (.t 0)),
 OG 26 24 true (.mov (.t 10)),
 OG 27 24 true (.iaddr (K1 10) (.t 25) (.t 26)),
 OG 28 24 true (.faddr 1 (.t 27)),
 OG 29 24 true (.load K0 (.t 28)),
 OG 30 24 true (.mov (.t 3)),
 OG 31 24 true (.bin .leq (.t 29) (.t 30)),
 O 32 (.pick (.t 24) (.t 31) (.c (.b false))),
 O 33 (.mov (.t 32)),
 OG 34 33 true (.mov (.t 0)),
 OG 35 33 true (.mov (.t 10)),
 OG 36 33 true (.iaddr (K1 10) (.t 34) (.t 35)),
 OG 37 33 true (.load (K1 10) (.t 36)),
 OG 38 33 true (.mov (.t 1)),
 OG 39 33 true (.call 0 1047 [(.t 37), (.t 38)]),
 O 40 (.pick (.t 33) (.t 39) (.c (.b false)))] [39, 38, 37, 36, 35, 34, 33, 32, 31, 30, 29, 28, 27, 26, 25, 24, 23, 22, 21, 20, 19, 18, 17]) (
 .cond (.t 40) (.reg [
 O 41 (.mov (.t 9)),
 O 42 (.bin .add (.t 41) (.c (I 1))),
 O 9 (.mov (.t 42))] [42, 41])
 (.skip)))) (
 .reg [
 O 15 (.mov (.t 10)),
 O 16 (.bin .add (.t 15) (.c (I 1))),
 O 10 (.mov (.t 16))] [16, 15]))
def F1039 : PF := ⟨4, [.t 8],
 sq (.reg [
 O 8 (.mov (.c (I 0)))] [8]) (
 sq (.reg [
 O 9 (.mov (.c (I 0)))] []) (
 sq (sq (.reg [
 O 10 (.mov (.c (I 0)))] []) (
 .block 0 (
 .loop [0, 1, 2, 3, 9, 10] L1039_0))) (
 sq (.reg [
 O 43 (.mov (.t 9)),
 O 8 (.mov (.t 43))] [9, 43]) (
 .ret))))⟩
def L1045_0 : PC :=
 sq (sq (.reg [
 O 10 (.mov (.t 0)),
 O 11 (.mov (.t 5)),
 O 12 (.call 0 1050 [(.t 11)]),
 O 13 (.bin .geq (.t 10) (.t 12))] [12, 11, 10]) (
 .cond (.t 13) (.skip)
 (.exit 0))) (
 .block 1 (
 sq (.reg [
 O 14 (.mov (.t 0)),
 O 15 (.mov (.t 5)),
 O 16 (.call 0 1050 [(.t 15)]),
 O 17 (.bin .sub (.t 14) (.t 16)),
 O 0 (.mov (.t 17))] [17, 16, 15, 14]) (
 .reg [
 O 18 (.mov (.t 5)),
 O 19 (.bin .add (.t 18) (.c (I 1))),
 O 5 (.mov (.t 19))] [19, 18])))
def L1045_1 : PC :=
 sq (sq (.reg [
 O 20 (.mov (.t 0)),
 O 21 (.mov (.t 5)),
 O 22 (.mov (.t 6)),
 O 23 (.call 0 1051 [(.t 21), (.t 22)]),
 O 24 (.bin .geq (.t 20) (.t 23))] [23, 22, 21, 20]) (
 .cond (.t 24) (.skip)
 (.exit 2))) (
 .block 3 (
 sq (.reg [
 O 25 (.mov (.t 0)),
 O 26 (.mov (.t 5)),
 O 27 (.mov (.t 6)),
 O 28 (.call 0 1051 [(.t 26), (.t 27)]),
 O 29 (.bin .sub (.t 25) (.t 28)),
 O 0 (.mov (.t 29))] [29, 28, 27, 26, 25]) (
 .reg [
 O 30 (.mov (.t 6)),
 O 31 (.bin .add (.t 30) (.c (I 1))),
 O 6 (.mov (.t 31))] [31, 30])))
def F1045 : PF := ⟨1, [.t 2, .t 3, .t 4],
 sq (.reg [
 O 2 (.mov (.c (I 0))),
 O 3 (.mov (.c (I 0))),
 O 4 (.mov (.c (I 0)))] [4, 3, 2]) (
 sq (sq (.reg [
 O 7 (.mov (.t 0)),
 O 8 (.call 0 544 [(.t 7)]),
 O 9 (.un .not (.t 8))] [8, 7]) (
 .cond (.t 9) (sq (.reg [
 O 2 (.mov (.c (I 0))),
 O 3 (.mov (.c (I 0))),
 O 4 (.mov (.c (I 0)))] []) (
 .ret))
 (.skip))) (
 sq (.reg [
 O 5 (.mov (.c (I 2000))),
 O 6 (.mov (.c (I 1)))] []) (
 sq (.block 0 (
 .loop [0, 5, 6] L1045_0)) (
 sq (.block 2 (
 .loop [0, 5, 6] L1045_1)) (
 sq (.reg [
 O 32 (.mov (.t 5)),
 O 33 (.mov (.t 6)),
 O 34 (.mov (.t 0)),
 O 35 (.bin .add (.t 34) (.c (I 1))),
 O 2 (.mov (.t 32)),
 O 3 (.mov (.t 33)),
 O 4 (.mov (.t 35))] [35, 0, 34, 6, 33, 5, 32]) (
 .ret))))))⟩
def F1046 : PF := ⟨2, [.t 4],
 sq (.reg [
 O 4 (.mov (.c (.b false)))] [4]) (
 sq (.reg [
 O 5 (.mov (.t 0)),
 O 6 (.mov (.t 1)),
 O 7 (.un .neg (.t 6)),
 O 8 (.bin .geq (.t 5) (.t 7)),
 O 9 (.mov (.t 8)),
 OG 10 9 true (.mov (.t 0)),
 OG 11 9 true (.mov (.t 1)),
 OG 12 9 true (.bin .leq (.t 10) (.t 11)),
 O 13 (.pick (.t 9) (.t 12) (.c (.b false))),
 O 4 (.mov (.t 13))] [13, 12, 11, 10, 9, 8, 7, 1, 6, 0, 5]) (
 .ret))⟩
def L1047_0 : PC :=
 sq (sq (.reg [
 O 6 (.mov (.t 5)),
 O 7 (.faddr 8 (.t 2)),
 O 8 (.load K0 (.t 7)),
 O 9 (.len false (.t 8)),
 O 10 (.bin .lss (.t 6) (.t 9))] [9, 8, 7, 6]) (
 .cond (.t 10) (.skip)
 (.exit 0))) (
 sq (.block 1 (
 sq (.reg [
 O 13 (.faddr 8 (.t 2)),
 O 14 (.load K0 (.t 13)),
 O 15 (.mov (.t 5)),
 O 16 (.iaddr (K1 3) (.t 14) (.t 15)),
 O 17 (.faddr 0 (.t 16)),
 O 18 (.load K0 (.t 17)),
 O 19 (.mov (.t 1)),
 O 20 (.bin .eql (.t 18) (.t 19))] [19, 18, 17, 16, 15, 14, 13]) (
 .cond (.t 20) (sq (.reg [
 O 4 (.mov (.c (.b true)))] []) (
 .ret))
 (.skip)))) (
 .reg [
 O 11 (.mov (.t 5)),
 O 12 (.bin .add (.t 11) (.c (I 1))),
 O 5 (.mov (.t 12))] [12, 11]))
def F1047 : PF := ⟨2, [.t 4],
 sq (.reg [
 O 2 (.box (K1 10) (.t 0)),
 O 4 (.mov (.c (.b false)))] [4, 0]) (
 sq (sq (.reg [
 O 5 (.mov (.c (I 0)))] []) (
 .block 0 (
 .loop [1, 2, 5] L1047_0))) (
 sq (.reg [
 O 4 (.mov (.c (.b false)))] []) (
 .ret)))⟩
def F1050 : PF := ⟨1, [.t 2],
 sq (.reg [
 O 2 (.mov (.c (I 0)))] [2]) (
 sq (sq (.reg [
 O 3 (.mov (.t 0)),
 O 4 (.call 0 1060 [(.t 3)])] [0, 3]) (
 .cond (.t 4) (sq (.reg [
 O 2 (.mov (.c (I 366)))] []) (
 .ret))
 (.skip))) (
 sq (.reg [
 O 2 (.mov (.c (I 365)))] []) (
 .ret)))⟩
def F1051 : PF := ⟨2, [.t 4],
 sq (.reg [
 O 4 (.mov (.c (I 0)))] [4]) (
 sq (sq (.reg [
 O 5 (.mov (.t 1))] [1]) (
 .block 0 (
 sq (sq (.reg [
 O 7 (.bin .eql (.t 5) (.c (I 1))),
 O 6 (.mov (.t 7))] [7]) (
 .cond (.t 6) (.skip)
 (sq (.reg [
 O 8 (.bin .eql (.t 5) (.c (I 3))),
 O 6 (.mov (.t 8))] [8]) (
 .cond (.t 6) (.skip)
 (sq (.reg [
 O 9 (.bin .eql (.t 5) (.c (I 5))),
 O 6 (.mov (.t 9))] [9]) (
 .cond (.t 6) (.skip)
 (sq (.reg [
 O 10 (.bin .eql (.t 5) (.c (I 7))),
 O 6 (.mov (.t 10))] [10]) (
 .cond (.t 6) (.skip)
 (sq (.reg [
 O 11 (.bin .eql (.t 5) (.c (I 8))),
 O 6 (.mov (.t 11))] [11]) (
 .cond (.t 6) (.skip)
 (sq (.reg [
 O 12 (.bin .eql (.t 5) (.c (I 10))),
 O 6 (.mov (.t 12))] [12]) (
 .cond (.t 6) (.skip)
 (.reg [
 O 13 (.bin .eql (.t 5) (.c (I 12))),
 O 6 (.mov (.t 13))] [13]))))))))))))) (
 .cond (.t 6) (sq (.reg [
 O 4 (.mov (.c (I 31)))] []) (
 .ret))
 (sq (sq (.reg [
 O 15 (.bin .eql (.t 5) (.c (I 4))),
 O 14 (.mov (.t 15))] [15]) (
 .cond (.t 14) (.skip)
 (sq (.reg [
 O 16 (.bin .eql (.t 5) (.c (I 6))),
 O 14 (.mov (.t 16))] [16]) (
 .cond (.t 14) (.skip)
 (sq (.reg [
 O 17 (.bin .eql (.t 5) (.c (I 9))),
 O 14 (.mov (.t 17))] [17]) (
 .cond (.t 14) (.skip)
 (.reg [
 O 18 (.bin .eql (.t 5) (.c (I 11))),
 O 14 (.mov (.t 18))] [18]))))))) (
 .cond (.t 14) (sq (.reg [
 O 4 (.mov (.c (I 30)))] []) (
 .ret))
 (sq (.reg [
 O 20 (.bin .eql (.t 5) (.c (I 2))),
 O 19 (.mov (.t 20))] [5, 20]) (
 .cond (.t 19) (sq (sq (.reg [
 O 21 (.mov (.t 0)),
 O 22 (.call 0 1060 [(.t 21)])] [0, 21]) (
 .cond (.t 22) (sq (.reg [
 O 4 (.mov (.c (I 29)))] []) (
 .ret))
 (.skip))) (
 sq (.reg [
 O 4 (.mov (.c (I 28)))] []) (
 .ret)))
 (.skip))))))))) (
 sq (.reg [
 O 4 (.mov (.c (I 0)))] []) (
 .ret)))⟩
def F1060 : PF := ⟨1, [.t 2],
 sq (.reg [
 O 2 (.mov (.c (.b false)))] [2]) (
 sq (.reg [
 O 3 (.mov (.t 0)),
 O 4 (.bin .rem (.t 3) (.c (I 4))),
 O 5 (.bin .eql (.t 4) (.c (I 0))),
 O 6 (.mov (.t 5)),
 OG 7 6 true (.mov (.t 0)),
 OG 8 6 true (.bin .rem (.t 7) (.c (I 100))),
 OG 9 6 true (.bin .neq (.t 8) (.c (I 0))),
 OG 10 6 true (.mov (.t 9)),
 OG 11 10 false (.mov (.t 0)),
 OG 12 10 false (.bin .rem (.t 11) (.c (I 400))),
 OG 13 10 false (.bin .eql (.t 12) (.c (I 0))),
 OG 14 6 true (.pick (.t 10) (.c (.b true)) (.t 13)),
 O 15 (.pick (.t 6) (.t 14) (.c (.b false))),
 O 2 (.mov (.t 15))] [15, 14, 13, 12, 11, 10, 9, 8, 7, 6, 5, 4, 0, 3]) (
 .ret))⟩
def F1084 : PF := ⟨2, [.t 4],
 sq (.reg [
 O 2 (.box (K1 22) (.t 0)),
 O 3 (.box (K1 3) (.t 1)),
 O 4 (.mov (.c (.b false)))] [4, 1, 0]) (
 sq (sq (.reg [
 O 9 (.load (K1 22) (.t 2)),
 O 10 (.call 0 1090 [(.t 9)])] [9]) (
 .cond (.t 10) (sq (.reg [
 O 11 (.call 0 1091 []),
 O 4 (.mov (.t 11))] [11]) (
 .ret))
 (.skip))) (
 sq (.reg [
 O 13 (.load (K1 22) (.t 2)),
 O 14 (.faddr 0 (.t 3)),
 O 15 (.load K0 (.t 14)),
 O 16 (.faddr 1 (.t 3)),
 O 17 (.load K0 (.t 16)),
 O 18 (.faddr 2 (.t 3)),
 O 19 (.load K0 (.t 18)),
 O 20 (.call 0 801 [(.t 13), (.t 15), (.t 17), (.t 19)]),
 O 12 (.mov (.t 20)),
 O 21 (.ext (.t 12) 0),
 O 22 (.ext (.t 12) 1),
 O 5 (.mov (.t 21)),
 O 6 (.mov (.t 22))] [22, 21, 12, 20, 19, 18, 17, 16, 15, 14, 13]) (
 sq (.reg [
 O 24 (.load (K1 22) (.t 2)),
 O 25 (.faddr 0 (.t 3)),
 O 26 (.load K0 (.t 25)),
 O 27 (.faddr 1 (.t 3)),
 O 28 (.load K0 (.t 27)),
 O 29 (.faddr 2 (.t 3)),
 O 30 (.load K0 (.t 29)),
 O 31 (.call 0 1030 [(.t 24), (.t 26), (.t 28), (.t 30)]),
 O 23 (.mov (.t 31)),
 O 32 (.ext (.t 23) 0),
 O 33 (.ext (.t 23) 1),
 O 7 (.mov (.t 32)),
 O 8 (.mov (.t 33))] [33, 32, 23, 31, 30, 29, 28, 27, 26, 3, 25, 2, 24]) (
 sq (.reg [
 O 34 (.mov (.t 6)),
 O 35 (.mov (.t 8)),
 O 36 (.bin .eql (.t 34) (.t 35)),
 O 37 (.mov (.t 36)),
 OG 38 37 true (.mov (.t 5)),
 OG 39 37 true (.mov (.t 7)),
 OG 40 37 true (.call 0 1092 [(.t 38), (.t 39)]),
 O 41 (.pick (.t 37) (.t 40) (.c (.b false))),
 O 42 (.mov (.t 41)),
 OG 43 42 true (.call 0 1091 []),
 O 44 (.pick (.t 42) (.t 43) (.c (.b false))),
 O 4 (.mov (.t 44))] [44, 43, 42, 41, 40, 7, 39, 5, 38, 37, 36, 8, 35, 6, 34]) (
 .ret)))))⟩
def L1092_0 : PC :=
 sq (sq (.reg [
 O 11 (.mov (.t 5)),
 O 12 (.mov (.t 0)),
 O 13 (.len false (.t 12)),
 O 14 (.bin .lss (.t 11) (.t 13))] [13, 12, 11]) (
 .cond (.t 14) (.skip)
 (.exit 0))) (
 sq (.block 1 (
 sq (.regD [
 O 17 (.mov (.t 0)),
 O 18 (.mov (.t 5)),
 O 19 (.iaddr (K1 2) (.t 17) (.t 18)),
 O 20 (.load (K1 2) (.t 19)),
 O 21 (.mov (.t 1)),
 O 22 (.mov (.t 5)),
 O 23 (.iaddr (K1 2) (.t 21) (.t 22)),
 O 24 (.load (K1 2) (.t 23)),
 O 25 (.eqv true [1, 1] (.t 20) (.t 24))] [0, 0, 3, 7, 0, 0, 48, 112, 255] [24, 23, 22, 21, 20, 19, 18, 17]) (
 .cond (.t 25) (sq (.reg [
 O 4 (.mov (.c (.b false)))] []) (
 .ret))
 (.skip)))) (
 .reg [
 O 15 (.mov (.t 5)),
 O 16 (.bin .add (.t 15) (.c (I 1))),
 O 5 (.mov (.t 16))] [16, 15]))
def F1092 : PF := ⟨2, [.t 4],
 sq (.reg [
 O 4 (.mov (.c (.b false)))] [4]) (
 sq (sq (.reg [
 O 6 (.mov (.t 0)),
 O 7 (.len false (.t 6)),
 O 8 (.mov (.t 1)),
 O 9 (.len false (.t 8)),
 O 10 (.bin .neq (.t 7) (.t 9))] [9, 8, 7, 6]) (
 .cond (.t 10) (sq (.reg [
 O 4 (.mov (.c (.b false)))] []) (
 .ret))
 (.skip))) (
 sq (sq (.reg [
 O 5 (.mov (.c (I 0)))] []) (
 .block 0 (
 .loop [0, 1, 5] L1092_0))) (
 sq (.reg [
 O 4 (.mov (.c (.b true)))] []) (
 .ret))))⟩
end Go.Sim
end
section
namespace Go.Sim
def tabF : PT :=
 (.bin 724 F724 (.bin 406 F406 (.bin 179 F179 (.bin 39 F39 (.bin 19 F19 (.bin 16 F16 (.bin 12 F12 .nil .nil) (.bin 18 F18 .nil .nil)) (.bin 24 F24 (.bin 22 F22 .nil .nil) (.bin 30 F30 .nil .nil))) (.bin 66 F66 (.bin 59 F59 (.bin 50 F50 .nil .nil) (.bin 65 F65 .nil .nil)) (.bin 72 F72 (.bin 71 F71 .nil .nil) (.bin 110 F110 .nil .nil)))) (.bin 342 F342 (.bin 263 F263 (.bin 181 F181 (.bin 180 F180 .nil .nil) (.bin 262 F262 .nil .nil)) (.bin 268 F268 (.bin 265 F265 .nil .nil) (.bin 341 F341 .nil .nil))) (.bin 387 F387 (.bin 371 F371 (.bin 344 F344 .nil .nil) (.bin 382 F382 .nil .nil)) (.bin 400 F400 (.bin 399 F399 .nil .nil) (.bin 405 F405 .nil .nil))))) (.bin 437 F437 (.bin 419 F419 (.bin 412 F412 (.bin 408 F408 (.bin 407 F407 .nil .nil) (.bin 409 F409 .nil .nil)) (.bin 415 F415 (.bin 414 F414 .nil .nil) (.bin 416 F416 .nil .nil))) (.bin 425 F425 (.bin 422 F422 (.bin 420 F420 .nil .nil) (.bin 424 F424 .nil .nil)) (.bin 430 F430 (.bin 429 F429 .nil .nil) (.bin 431 F431 .nil .nil)))) (.bin 683 F683 (.bin 544 F544 (.bin 442 F442 (.bin 438 F438 .nil .nil) (.bin 446 F446 .nil .nil)) (.bin 634 F634 (.bin 603 F603 .nil .nil) (.bin 674 F674 .nil .nil))) (.bin 716 F716 (.bin 708 F708 (.bin 684 F684 .nil .nil) (.bin 715 F715 .nil .nil)) (.bin 720 F720 (.bin 719 F719 .nil .nil) .nil))))) (.bin 1026 F1026 (.bin 885 F885 (.bin 857 F857 (.bin 803 F803 (.bin 768 F768 (.bin 767 F767 .nil .nil) (.bin 801 F801 .nil .nil)) (.bin 855 F855 (.bin 804 F804 .nil .nil) (.bin 856 F856 .nil .nil))) (.bin 881 F881 (.bin 879 F879 (.bin 858 F858 .nil .nil) (.bin 880 F880 .nil .nil)) (.bin 883 F883 (.bin 882 F882 .nil .nil) (.bin 884 F884 .nil .nil)))) (.bin 946 F946 (.bin 919 F919 (.bin 917 F917 (.bin 916 F916 .nil .nil) (.bin 918 F918 .nil .nil)) (.bin 934 F934 (.bin 933 F933 .nil .nil) (.bin 945 F945 .nil .nil))) (.bin 966 F966 (.bin 949 F949 (.bin 947 F947 .nil .nil) (.bin 950 F950 .nil .nil)) (.bin 1023 F1023 (.bin 1022 F1022 .nil .nil) (.bin 1025 F1025 .nil .nil))))) (.bin 1046 F1046 (.bin 1035 F1035 (.bin 1030 F1030 (.bin 1028 F1028 (.bin 1027 F1027 .nil .nil) (.bin 1029 F1029 .nil .nil)) (.bin 1033 F1033 (.bin 1032 F1032 .nil .nil) (.bin 1034 F1034 .nil .nil))) (.bin 1039 F1039 (.bin 1037 F1037 (.bin 1036 F1036 .nil .nil) (.bin 1038 F1038 .nil .nil)) (.bin 1044 F1044 (.bin 1043 F1043 .nil .nil) (.bin 1045 F1045 .nil .nil)))) (.bin 1091 F1091 (.bin 1060 F1060 (.bin 1050 F1050 (.bin 1047 F1047 .nil .nil) (.bin 1051 F1051 .nil .nil)) (.bin 1085 F1085 (.bin 1084 F1084 .nil .nil) (.bin 1090 F1090 .nil .nil))) (.bin 1096 F1096 (.bin 1094 F1094 (.bin 1092 F1092 .nil .nil) (.bin 1095 F1095 .nil .nil)) (.bin 1098 F1098 (.bin 1097 F1097 .nil .nil) .nil))))))
def xsL : List (Nat × XK) := [(423, .cnt)]
def rsL : List (Nat × RK) := [(264, .ins (K1 3) 32)]
def gsL : List (Nat × DV × K) := [(0, .a [.i .u64 1, .i .u64 10, .i .u64 100, .i .u64 1000, .i .u64 10000, .i .u64 100000, .i .u64 1000000, .i .u64 10000000, .i .u64 100000000, .i .u64 1000000000, .i .u64 10000000000, .i .u64 100000000000, .i .u64 1000000000000, .i .u64 10000000000000, .i .u64 100000000000000, .i .u64 1000000000000000, .i .u64 10000000000000000, .i .u64 100000000000000000, .i .u64 1000000000000000000, .i .u64 10000000000000000000], some 20), (4, .a (asciiL.map fun z => .i .u8 z), some 256)]
noncomputable def TA25E : Tab := mkTab tabF xsL rsL gsL
end Go.Sim
end
section
open Go.RowKit Go.WideShapes Go.Deep
namespace Go.Sim
inductive Ty where
 | b
 | i (k : IntKind)
 | s
 | e
 | l (k : K) (ts : List Ty)
mutual
inductive XL : DV → Prop
 | mk (es : List DV) (t : Bool) : es.length ≤ maxLen → (∀ e ∈ es, XE e) → XL (.l (some 4) es t)
inductive XE : DV → Prop
 | mk (o n : Int) (s : List UInt8) (a : DV) : (Lit.int .i64 o).wf = true → (Lit.int .i64 n).wf = true → s.length ≤ maxLen → XL a → XE (.a [.i .i64 o, .i .i64 n, .s s, a])
end
mutual
def Has : Ty → DV → Prop
 | .e, x => XL x
 | .b, x => ∃ c, x = .b c
 | .i k, x => ∃ n, x = .i k n ∧ (Lit.int k n).wf = true
 | .s, x => ∃ l, x = .s l ∧ l.length ≤ maxLen
 | .l k ts, x => ∃ es, x = .l k es false ∧ es.length ≤ maxLen ∧ ∀ e ∈ es, ∃ cs, mkD k cs = some e ∧ HasL ts cs
def HasL : List Ty → List DV → Prop
 | [], [] => True
 | t :: ts, x :: xs => Has t x ∧ HasL ts xs
 | _, _ => False
end
def tyFs (P : Program) (rec : TypeId → Option (List Ty)) : List Field → Nat → Nat → Option (List Ty)
 | [], off, n => if off = n then some [] else none
 | f :: fs, off, n => if f.offset ≠ off then none else (rec f.type).bind fun a => if a.length ≠ P.cellsOf f.type then none else (tyFs P rec fs (off + a.length) n).bind fun b => some (a ++ b)
def tyB (P : Program) (u : TypeId) : Option (List Ty) := match P.underlying u with
 | some .bool => some [.b]
 | some (.int k) => some [.i k]
 | some .string => some [.s]
 | _ => none
def isX4 : Option (List Ty) → Bool
 | some [.i .i64, .i .i64, .s, .e] => true
 | _ => false
def exprB (P : Program) (t : TypeId) : Bool := match P.underlying t with
 | some (.slice e) => decide (kq P e = some (some 4)) && (decide (P.cellsOf e = 4) && match P.underlying e with
  | some (.struct fs) => isX4 (tyFs P (fun u => if u = t then some [.e] else tyB P u) fs.toList 0 4)
  | _ => false)
 | _ => false
def tyOf (P : Program) : Nat → TypeId → Option (List Ty)
 | 0, _ => none
 | n + 1, t => match P.underlying t with
  | some .bool => some [.b]
  | some (.int k) => some [.i k]
  | some .string => some [.s]
  | some (.slice e) => if exprB P t = true then some [.e] else (kq P e).bind fun k => (tyOf P n e).bind fun ts => if ts.length = P.cellsOf e ∧ k.size = ts.length ∧ 0 < ts.length then some [.l k ts] else none
  | some (.struct fs) => tyFs P (tyOf P n) fs.toList 0 (P.cellsOf t)
  | some (.array m e) => (tyOf P n e).bind fun ts => if ts.length = P.cellsOf e ∧ P.cellsOf t = m * P.cellsOf e then some (List.replicate m ts).flatten else none
  | _ => none
def Live (w : World) : Stab := fun b o => ∃ v, w.cell? ⟨b, o, none⟩ = some v
theorem Live.swf (w : World) : Swf w (Live w) := fun _ _ h => h
def R1 (w : World) (t : Ty) (v : Value) : Prop := flat v ∧ ∃ x, Has t x ∧ RelD w (Live w) x v
def CR (w : World) : List Ty → List Value → Prop
 | [], [] => True
 | t :: ts, v :: vs => R1 w t v ∧ CR w ts vs
 | _, _ => False
theorem CR.append {w : World} : ∀ {ts : List Ty} {vs : List Value} {us : List Ty} {ws : List Value}, CR w ts vs → CR w us ws → CR w (ts ++ us) (vs ++ ws)
 | [], [], _, _, _, k => k
 | _ :: _, _ :: _, _, _, h, k => ⟨h.1, h.2.append k⟩
 | [], _ :: _, _, _, h, _ => h.elim
 | _ :: _, [], _, _, h, _ => h.elim
theorem CR.len {w : World} : ∀ {ts : List Ty} {vs : List Value}, CR w ts vs → ts.length = vs.length
 | [], [], _ => rfl
 | _ :: _, _ :: _, h => by simp [h.2.len]
 | [], _ :: _, h => h.elim
 | _ :: _, [], h => h.elim
theorem CR.flat {w : World} : ∀ {ts : List Ty} {vs : List Value}, CR w ts vs → ∀ v ∈ vs, flat v
 | [], [], _, v, hv => by cases hv
 | _ :: _, _ :: _, h, v, hv => by
  rcases List.mem_cons.1 hv with rfl | hv
  ·exact h.1.1
  ·exact h.2.flat v hv
 | [], _ :: _, h, _, _ => h.elim
 | _ :: _, [], h, _, _ => h.elim
theorem CR.data {w : World} : ∀ {ts : List Ty} {vs : List Value}, CR w ts vs → ∃ xs, HasL ts xs ∧ xs.length = vs.length ∧ ∀ j (h : j < xs.length) (h' : j < vs.length), RelD w (Live w) xs[j] vs[j]
 | [], [], _ => ⟨[], by simp [HasL], rfl, fun j h => by cases h⟩
 | _ :: _, _ :: _, h => by
  obtain ⟨xs, h1, h2, h3⟩ := h.2.data
  obtain ⟨-, x, h4, h5⟩ := h.1
  refine ⟨x :: xs, by rw [HasL]; exact ⟨h4, h1⟩, by simp [h2], ?_⟩
  intro j hj hj'
  cases j with
  | zero => exact h5
  | succ j => exact h3 j _ _
 | [], _ :: _, h => h.elim
 | _ :: _, [], h => h.elim
theorem CR.val {w : World} {ts : List Ty} {vs : List Value} (h : CR w ts vs) {k : K} (hk : k.size = ts.length) (c : Nat → Value) (hc : ∀ m (h : m < vs.length), c m = vs[m]) :
  ∃ xs e, mkD k xs = some e ∧ HasL ts xs ∧ RelD w (Live w) e (mkV k c) := by
 obtain ⟨xs, h1, h2, h3⟩ := h.data
 have hl := h.len
 cases k with
 | none =>
  simp only [K.size] at hk
  match xs, vs, h2 with
  | [x], [v], _ =>
   refine ⟨[x], x, rfl, h1, ?_⟩
   have := h3 0 (by simp) (by simp)
   simp only [mkV]
   rw [hc 0 (by simp)]
   exact this
  | [], [], _ => simp at hl; subst hl; simp at hk
  | _ :: _ :: _, vs, e => rw [← hl, ← hk] at e; simp at e
 | some n =>
  simp only [K.size] at hk
  have e : (List.range n).map c = vs := by
   apply List.ext_getElem
   ·simp; omega
   ·intro m hm hm'
    simp [hc m hm']
  refine ⟨xs, .a xs, by simp [mkD]; omega, h1, ?_⟩
  simp only [mkV, e]
  exact .a xs vs h2 h.flat h3
section
variable {H : Type} {enc : TypeId × Value → H} {P : Program} {w : World} {sp : Nat → Bool} {held : Bool}
theorem cr_struct {rec : TypeId → Option (List Ty)} {cs : List Value} {n : Nat} (hn : cs.length = n) : ∀ (fs : List Field) (off : Nat) (ts : List Ty), off ≤ n → tyFs P rec fs off n = some ts →
  (∀ f ∈ fs, ∀ ts', rec f.type = some ts' → CR w ts' ((cs.drop f.offset).take (P.cellsOf f.type))) → CR w ts (cs.drop off)
 | [], off, ts, ho, h, _ => by
  simp only [tyFs] at h
  split at h
  ·cases h
   rw [List.drop_eq_nil_iff.2 (by omega)]
   trivial
  ·cases h
 | f :: fs, off, ts, ho, h, hf => by
  simp only [tyFs] at h
  split at h
  ·cases h
  rename_i h1
  have h1 : f.offset = off := by simpa using h1
  obtain ⟨a, ha, h⟩ := Option.bind_eq_some_iff.1 h
  split at h
  ·cases h
  rename_i h2
  have h2 : a.length = P.cellsOf f.type := by simpa using h2
  obtain ⟨b, hb, h⟩ := Option.bind_eq_some_iff.1 h
  cases h
  have k1 := hf f (List.mem_cons_self ..) a ha
  have k1l := k1.len
  rw [h1, ← h2] at k1
  have hle : off + a.length ≤ n := by
   rw [List.length_take, List.length_drop, h1] at k1l; omega
  have k2 := cr_struct hn fs (off + a.length) b hle hb (fun g hg => hf g (List.mem_cons_of_mem _ hg))
  have := k1.append k2
  rwa [← List.drop_drop, List.take_append_drop] at this
theorem cr_array {cs : List Value} {c : Nat} {ts : List Ty} (ht : ts.length = c) : ∀ (m i : Nat), cs.length = (i + m) * c → (∀ j, i ≤ j → j < i + m → CR w ts ((cs.drop (j * c)).take c)) → CR w (List.replicate m ts).flatten (cs.drop (i * c))
 | 0, i, hl, _ => by
  rw [List.drop_eq_nil_iff.2 (by rw [hl]; simp)]
  trivial
 | m + 1, i, hl, h => by
  have k1 := h i (Nat.le_refl _) (by omega)
  have k2 := cr_array ht m (i + 1) (by rw [hl]; congr 1; omega) (fun j hj hj' => h j (by omega) (by omega))
  have := k1.append k2
  rw [Nat.succ_mul, ← List.drop_drop, List.take_append_drop] at this
  simpa [List.replicate_succ] using this
theorem cr_slice {t e : TypeId} {fuel : Nat} {cs : List Value} {x : DataW H × List MemPlace} {k : K} {c : Nat} {Pe : DV → Prop} (hu : P.underlying t = some (.slice e)) (hd : DataW.trod enc P w 0 sp held fuel t cs = some x) (hc1 : c = P.cellsOf e) (hc2 : k.size = c) (hc3 : 0 < c)
  (hel : ∀ n cs' x', n < fuel → DataW.trod enc P w 0 sp held n e cs' = some x' → ∃ us, us.length = c ∧ CR w us cs' ∧ ∀ xs ee, mkD k xs = some ee → HasL us xs → Pe ee) :
  ∃ v E, cs = [v] ∧ flat v ∧ RelD w (Live w) (.l k E false) v ∧ E.length ≤ maxLen ∧ ∀ e ∈ E, Pe e := by
 rcases DataW.trod_slice hu hd with ⟨rfl, -⟩ | ⟨a, len, cap, elems, rest, n, rfl, rfl, -, hb, hl, hm, hlen, hx, -, -⟩
 ·refine ⟨_, [], rfl, rfl, ?_, by simp, fun e he => by cases he⟩
  exact .l k [] false none 0 0 0 (fun _ _ => .bool false) (Nat.le_refl _) (fun h => by cases h) (fun h => by cases h) (fun j h => by cases h) (fun j h => by cases h)
 ·have hs : ∀ i, i < len → ∃ V : (Nat → Value) × DV, (∀ q, q < k.size → w.cell? (a.add (i * P.cellsOf e + q)) = some (V.1 q) ∧ flat (V.1 q)) ∧ Pe V.2 ∧ RelD w (Live w) V.2 (mkV k V.1) := by
   intro i hi
   have h0 := hx i hi
   rw [List.getElem?_eq_getElem (by omega)] at h0
   obtain ⟨cs', h1, h2⟩ := Option.bind_eq_some_iff.1 h0
   obtain ⟨us, hus, h3, hpe⟩ := hel n cs' _ (Nat.lt_succ_self n) h2
   obtain ⟨-, h4, h5⟩ := World.cells?_some h1
   obtain ⟨xs, ee, e1, e2, e3⟩ := h3.val (k := k) (by omega) (fun q => cs'.getD q (.bool false)) (fun q hq => by simp [hq])
   have hul := h3.len
   refine ⟨(fun q => cs'.getD q (.bool false), ee), ?_, hpe xs ee e1 e2, e3⟩
   intro q hq
   have hq' : q < cs'.length := by omega
   have h6 := h5 q (by omega)
   rw [List.getElem?_eq_getElem hq'] at h6
   have e7 : (cs'.getD q (.bool false)) = cs'[q] := by simp [hq']
   refine ⟨?_, ?_⟩
   ·rw [show (a.add (i * P.cellsOf e + q)) = (a.add (i * P.cellsOf e)).add q by by_cases g1 : i * P.cellsOf e = 0 <;> by_cases g2 : q = 0 <;> simp [Addr.add, g1, g2, Nat.add_assoc]]
    simp only [e7]; exact h6
   ·show flat (cs'.getD q (.bool false))
    rw [e7]; exact h3.flat _ (List.getElem_mem _)
  have : Inhabited ((Nat → Value) × DV) := ⟨(fun _ => .bool false, .np)⟩
  obtain ⟨V, hV⟩ := choose_lt hs
  obtain ⟨E, hE, hEV⟩ : ∃ E : List DV, E.length = len ∧ ∀ i (h : i < E.length), E[i] = (V i).2 := ⟨(List.range len).map fun i => (V i).2, by simp, fun i h => by simp⟩
  subst hE
  have hk0 : 0 < k.size := by omega
  have sp0 : ∀ j, j < E.length → a.spot = none := by
   intro j hj
   have := World.cell?_spot ((hV 0 (by omega)).1 0 hk0).1
   simpa [Addr.add] using this
  refine ⟨_, E, rfl, rfl, ?_, by omega, ?_⟩
  ·refine RelD.l (w := w) (S := Live w) k E false (some a) cap a.block a.off (fun j => (V j).1) hl (fun h => by cases h) ?_ ?_ ?_
   ·intro h0
    have := sp0 0 h0
    cases a; simp_all
   ·intro j hj q hq
    obtain ⟨g1, g2⟩ := (hV j hj).1 q hq
    have hs0 := sp0 j hj
    have e8 : a.add (j * P.cellsOf e + q) = ⟨a.block, a.off + j * k.size + q, none⟩ := by
     rw [← hc1, ← hc2]
     obtain ⟨ab, ao, as0⟩ := a
     simp only at hs0
     subst hs0
     by_cases g : j * k.size + q = 0 <;> simp [Addr.add, g, Nat.add_assoc]
     omega
    rw [e8] at g1
    exact ⟨g1, ⟨_, g1⟩, g2⟩
   ·intro j hj
    rw [hEV j hj]
    exact (hV j hj).2.2
  ·intro ee he
   obtain ⟨i, hi, rfl⟩ := List.getElem_of_mem he
   rw [hEV i hi]
   exact (hV i hi).2.1
theorem cr_base {u : TypeId} {fuel : Nat} {cs : List Value} {x : DataW H × List MemPlace} {ts : List Ty} (hd : DataW.trod enc P w 0 sp held fuel u cs = some x) (h : tyB P u = some ts) : CR w ts cs := by
 unfold tyB at h
 split at h
 ·rename_i hu
  cases h
  obtain ⟨b, rfl, -⟩ := DataW.trod_bool hu hd
  exact ⟨⟨rfl, .b b, by simp [Has], .b b⟩, trivial⟩
 ·rename_i k hu
  cases h
  obtain ⟨m, rfl, -, hw⟩ := DataW.trod_int hu hd
  exact ⟨⟨rfl, .i k m, by simp [Has, hw], .i k m⟩, trivial⟩
 ·rename_i hu
  cases h
  obtain ⟨s, rfl, -, hs⟩ := DataW.trod_string hu hd
  exact ⟨⟨rfl, .s s.data.toList, by simpa [Has] using hs, .s _ s rfl⟩, trivial⟩
 ·cases h
theorem xe_of {xs : List DV} {ee : DV} (h1 : mkD (some 4) xs = some ee) (h2 : HasL [.i .i64, .i .i64, .s, .e] xs) : XE ee := by
 match xs, h2 with
 | [x1, x2, x3, x4], h2 =>
  simp only [HasL, Has, and_true] at h2
  obtain ⟨⟨o, rfl, ho⟩, ⟨n, rfl, hn⟩, ⟨s, rfl, hs⟩, h4⟩ := h2
  simp only [mkD, List.length_cons, List.length_nil, if_true, Option.some.injEq] at h1
  subst h1
  exact .mk o n s x4 ho hn hs h4
 | [], h2 => simp [HasL] at h2
 | [_], h2 => simp [HasL] at h2
 | [_, _], h2 => simp [HasL] at h2
 | [_, _, _], h2 => simp [HasL] at h2
 | _ :: _ :: _ :: _ :: _ :: _, h2 => simp [HasL] at h2
theorem xl_of {t : TypeId} (ht : exprB P t = true) : ∀ (m fuel : Nat) (cs : List Value) (x : DataW H × List MemPlace), fuel ≤ m → DataW.trod enc P w 0 sp held fuel t cs = some x → CR w [.e] cs := by
 have ht0 := ht
 unfold exprB at ht
 split at ht
 case h_2 => cases ht
 rename_i e hu
 simp only [Bool.and_eq_true, decide_eq_true_eq] at ht
 obtain ⟨hk, hc, ht⟩ := ht
 split at ht
 case h_2 => cases ht
 rename_i fs hf
 obtain ⟨ts, hts, h4⟩ : ∃ ts, tyFs P (fun u => if u = t then some [.e] else tyB P u) fs.toList 0 4 = some ts ∧ ts = [.i .i64, .i .i64, .s, .e] := by
  unfold isX4 at ht
  split at ht
  ·rename_i hq; exact ⟨_, hq, rfl⟩
  ·cases ht
 subst h4
 intro m
 induction m with
 | zero =>
  intro fuel cs x hm hd
  obtain rfl : fuel = 0 := by omega
  simp [DataW.trod] at hd
 | succ m ih =>
  intro fuel cs x hm hd
  obtain ⟨v, E, rfl, hfl, hr, hlen, hE⟩ := cr_slice (k := some 4) (c := 4) (Pe := XE) hu hd hc.symm rfl (by decide) (fun n cs' x' hn hd' => by
   refine ⟨_, rfl, ?_, fun xs ee h1 h2 => xe_of h1 h2⟩
   obtain ⟨xs, n', rfl, -, hl, hl2, hx⟩ := DataW.trod_struct hf hd'
   have := cr_struct (P := P) (w := w) (rec := fun u => if u = t then some [.e] else tyB P u) (hl.trans hc) fs.toList 0 _ (Nat.zero_le _) hts (fun f hf' ts' hts' => by
    obtain ⟨i, hi, rfl⟩ := List.getElem_of_mem hf'
    have hi' : i < fs.size := by simpa using hi
    have h5 := hx i fs[i] (by simp [hi'])
    rw [List.getElem?_eq_getElem (by omega)] at h5
    simp only [Array.getElem_toList] at hts' ⊢
    split at hts'
    ·rename_i hft
     cases hts'
     rw [hft] at h5 ⊢
     exact ih n' _ _ (by omega) h5
    ·exact cr_base h5 hts')
   simpa using this)
  exact ⟨⟨hfl, _, by rw [Has]; exact .mk E false hlen hE, hr⟩, trivial⟩
theorem cr_of (n : Nat) : ∀ {fuel : Nat} {t : TypeId} {cs : List Value} {x : DataW H × List MemPlace} {ts : List Ty}, DataW.trod enc P w 0 sp held fuel t cs = some x → tyOf P n t = some ts → CR w ts cs := by
 induction n with
 | zero => intro fuel t cs x ts _ h; cases h
 | succ n ih =>
  intro fuel t cs x ts hd h
  simp only [tyOf] at h
  split at h
  ·rename_i hu
   cases h
   obtain ⟨b, rfl, -⟩ := DataW.trod_bool hu hd
   exact ⟨⟨rfl, .b b, by simp [Has], .b b⟩, trivial⟩
  ·rename_i k hu
   cases h
   obtain ⟨m, rfl, -, hw⟩ := DataW.trod_int hu hd
   exact ⟨⟨rfl, .i k m, by simp [Has, hw], .i k m⟩, trivial⟩
  ·rename_i hu
   cases h
   obtain ⟨s, rfl, -, hs⟩ := DataW.trod_string hu hd
   exact ⟨⟨rfl, .s s.data.toList, by simpa [Has] using hs, .s _ s rfl⟩, trivial⟩
  ·rename_i e hu
   split at h
   ·rename_i hX
    cases h
    exact xl_of hX fuel fuel cs x (Nat.le_refl _) hd
   obtain ⟨k, hk, h⟩ := Option.bind_eq_some_iff.1 h
   obtain ⟨us, hus, h⟩ := Option.bind_eq_some_iff.1 h
   split at h
   ·rename_i hc
    cases h
    obtain ⟨hc1, hc2, hc3⟩ := hc
    obtain ⟨v, E, rfl, hfl, hr, hlen, hE⟩ := cr_slice (k := k) (c := us.length) (Pe := fun ee => ∃ cs, mkD k cs = some ee ∧ HasL us cs) hu hd hc1 hc2 hc3 (fun n' cs' x' _ hd' => ⟨us, rfl, ih hd' hus, fun xs ee h1 h2 => ⟨xs, h1, h2⟩⟩)
    refine ⟨⟨hfl, _, ?_, hr⟩, trivial⟩
    rw [Has]
    exact ⟨E, rfl, hlen, hE⟩
   ·cases h
  ·rename_i fs hu
   obtain ⟨xs, m, -, -, hl, hl2, hx⟩ := DataW.trod_struct hu hd
   have := cr_struct (P := P) (w := w) (rec := tyOf P n) hl fs.toList 0 ts (Nat.zero_le _) h (fun f hf ts' hts => by
    obtain ⟨i, hi, rfl⟩ := List.getElem_of_mem hf
    have hi' : i < fs.size := by simpa using hi
    have := hx i fs[i] (by simp [hi'])
    rw [List.getElem?_eq_getElem (by omega)] at this
    simpa using ih this hts)
   simpa using this
  ·rename_i m e hu
   obtain ⟨us, hus, h⟩ := Option.bind_eq_some_iff.1 h
   split at h
   ·rename_i hc
    cases h
    obtain ⟨xs, m', -, -, hl, hl2, hx⟩ := DataW.trod_array hu hd
    have := cr_array (w := w) (cs := cs) hc.1 m 0 (by rw [hl, hc.2]; simp) (fun j _ hj => by
     have := hx j (by omega)
     rw [List.getElem?_eq_getElem (by omega)] at this
     exact ih this hus)
    simpa using this
   ·cases h
  ·cases h
end
end Go.Sim
end
section
open Go.RowKit
namespace Go.Sim
section
variable {P : Program} {W : World}
theorem laidVars_get {n : String} {d : DataW Unit} : ∀ {l : List (String × DataW Unit)} {ps : List MemPlace}, DataW.LaidVars P W l ps → (n, d) ∈ l →
  ∃ g t cs fuel p, P.globalNamed n = some g ∧ (P.globals[g]?).map (·.type) = some t ∧ W.var? P n = some cs ∧ DataW.trod (fun _ => ()) P W 0 (fun _ => true) false fuel t cs.toList = some (d, p) ∧ ∀ x ∈ MemPlace.row ⟨g, 0, none⟩ cs.size, x ∈ ps
 | [], _, _, h => by cases h
 | (m, e) :: r, ps, h, hm => by
  obtain ⟨g, t, cs, fuel, p, q, h1, h2, h3, h4, h5, rfl⟩ := h
  rcases List.mem_cons.1 hm with h | h
  ·cases h
   exact ⟨g, t, cs, fuel, p, h1, h2, h3, h4, fun x hx => List.mem_append_left _ (List.mem_append_left _ hx)⟩
  ·obtain ⟨g', t', cs', fuel', p', a1, a2, a3, a4, a5⟩ := laidVars_get h5 h
   exact ⟨g', t', cs', fuel', p', a1, a2, a3, a4, fun x hx => List.mem_append_right _ (a5 x hx)⟩
theorem laid_block {laid : List (String × DataW Unit)} (h : laidMet P laid W) {n : String} {d : DataW Unit} (hm : (n, d) ∈ laid) {g : Nat} (hg : P.globalNamed n = some g) {t : TypeId} (ht : (P.globals[g]?).map (·.type) = some t) :
  ∃ (cs : Array Value) (fuel : Nat) (p : List MemPlace), DataW.trod (fun _ => ()) P W 0 (fun _ => true) false fuel t cs.toList = some (d, p) ∧ (0 < cs.size → ∃ e, W.shape? g = some (e, cs.size)) ∧ ∀ j (hj : j < cs.size), W.cell? ⟨g, j, none⟩ = some cs[j] := by
 obtain ⟨ps, h1, -, h3⟩ := h
 obtain ⟨g', t', cs, fuel, p, a1, a2, a3, a4, a5⟩ := laidVars_get h1 hm
 obtain rfl := Option.some.inj (hg.symm.trans a1)
 obtain rfl := Option.some.inj (ht.symm.trans a2)
 have hheap : ∃ e fz, W.heap[g]? = some (.cells cs e fz) := by
  unfold World.var? at a3
  rw [hg] at a3
  simp only [Option.bind_some] at a3
  split at a3
  ·rename_i cs' e fz hw
   cases a3
   exact ⟨e, fz, hw⟩
  ·cases a3
 obtain ⟨e, fz, hw⟩ := hheap
 refine ⟨cs, fuel, p, a4, ?_, ?_⟩
 ·intro hp
  obtain ⟨⟨c, u, hc⟩, -⟩ := h3 g 0 (a5 _ (by unfold MemPlace.row; exact List.mem_map.2 ⟨0, List.mem_range.2 hp, rfl⟩))
  rw [hw] at hc
  cases hc
  exact ⟨e, by simp [World.shape?, hw]⟩
 ·intro j hj
  simp [World.cell?, hw, hj]
theorem gok_cells {S : Stab} (hS : S = Live W) {g : Nat} {zs : List (IntKind × Int)} (hz : 0 < zs.length) {cs : Array Value} (hl : cs.toList = zs.map fun z => Value.int z.1 z.2) (hs : 0 < cs.size → ∃ e, W.shape? g = some (e, cs.size)) (hc : ∀ j (hj : j < cs.size), W.cell? ⟨g, j, none⟩ = some cs[j]) :
  (∃ e, W.shape? g = some (e, zs.length)) ∧ ∃ f, At W S g 0 zs.length f ∧ RelD W S (.a (zs.map fun z => .i z.1 z.2)) (mkV (some zs.length) f) := by
 subst hS
 have hn : cs.size = zs.length := by rw [← Array.length_toList, hl, List.length_map]
 have hget : ∀ j (hj : j < zs.length), cs[j]'(by omega) = .int zs[j].1 zs[j].2 := fun j hj => by
  have h1 : cs.toList[j]'(by rw [Array.length_toList]; omega) = cs[j]'(by omega) := Array.getElem_toList _
  rw [← h1]
  simp only [hl, List.getElem_map]
 refine ⟨?_, fun j => cs.getD j (.bool false), ?_, ?_⟩
 ·obtain ⟨e, he⟩ := hs (by omega)
  exact ⟨e, by rw [he, hn]⟩
 ·intro j hj
  have h1 := hc j (by omega)
  have h2 : cs.getD j (.bool false) = cs[j]'(by omega) := by simp [Array.getD, show j < cs.size by omega]
  refine ⟨by rw [Nat.zero_add]; show _ = some (cs.getD j (.bool false)); rw [h2]; exact h1, ⟨_, by rw [Nat.zero_add]; exact h1⟩, ?_⟩
  show flat (cs.getD j (.bool false))
  rw [h2, hget j hj]; rfl
 ·simp only [mkV]
  refine RelD.a _ _ (by simp) ?_ ?_
  ·intro v hv
   obtain ⟨j, hj, rfl⟩ := List.mem_map.1 hv
   have hj := List.mem_range.1 hj
   have h2 : cs.getD j (.bool false) = cs[j]'(by omega) := by simp [Array.getD, show j < cs.size by omega]
   show flat (cs.getD j (.bool false))
   rw [h2, hget j hj]; rfl
  ·intro j hj hj'
   simp only [List.length_map] at hj
   simp only [List.getElem_map, List.getElem_range]
   have h2 : cs.getD j (.bool false) = cs[j]'(by omega) := by simp [Array.getD, show j < cs.size by omega]
   rw [h2, hget j hj]
   exact .i _ _
theorem gok_ints {laid : List (String × DataW Unit)} (h : laidMet P laid W) {n : String} {k : IntKind} {zs : List Int} (hm : (n, .agg (zs.map fun z => .lit (.int k z))) ∈ laid) {g : Nat} (hg : P.globalNamed n = some g) {t : TypeId} (ht : (P.globals[g]?).map (·.type) = some t)
  {m : Nat} {e : TypeId} (hu : P.underlying t = some (.array m e)) (he : P.underlying e = some (.int k)) (hc : P.cellsOf e = 1) (hct : P.cellsOf t = m) (hz : 0 < zs.length) :
  (∃ e, W.shape? g = some (e, zs.length)) ∧ ∃ f, At W (Live W) g 0 zs.length f ∧ RelD W (Live W) (.a (zs.map fun z => .i k z)) (mkV (some zs.length) f) := by
 obtain ⟨cs, fuel, p, h1, h2, h3⟩ := laid_block h hm hg ht
 obtain ⟨xs, m', rfl, hx, hl, hxl, hel⟩ := DataW.trod_array hu h1
 simp only [Prod.mk.injEq, DataW.agg.injEq] at hx
 have hzl : zs.length = m := by
  have := congrArg List.length hx.1
  simp only [List.length_map] at this
  omega
 have hcs : cs.toList = (zs.map fun z => (k, z)).map fun z => Value.int z.1 z.2 := by
  apply List.ext_getElem
  ·simp only [List.length_map]; rw [hl, hct, hzl]
  ·intro j hj hj'
   simp only [List.length_map] at hj'
   have hjm : j < m := by omega
   have h4 := hel j hjm
   rw [hc, Nat.mul_one, List.getElem?_eq_getElem (by omega)] at h4
   obtain ⟨n', e1, e2, -⟩ := DataW.trod_int he h4
   have e3 : cs.toList[j] = .int k n' := by
    have : (cs.toList.drop j).take 1 = [cs.toList[j]] := by
     rw [List.drop_eq_getElem_cons hj]; rfl
    rw [this] at e1
    exact (List.cons.inj e1).1
   rw [e3]
   have e4 : (xs.map (·.1))[j]'(by simp; omega) = .lit (.int k n') := by simp only [List.getElem_map]; rw [e2]
   have e5 : (zs.map fun z => (DataW.lit (.int k z) : DataW Unit))[j]'(by simp; omega) = .lit (.int k n') := by
    rw [← e4]; congr 1; exact hx.1
   simp only [List.getElem_map] at e5
   have e6 : zs[j] = n' := by simpa using e5
   simp only [List.getElem_map]
   rw [e6]
 have := gok_cells (W := W) rfl (g := g) (zs := zs.map fun z => (k, z)) (by simpa using hz) hcs h2 h3
 simpa only [List.length_map, List.map_map, Function.comp_def] using this
noncomputable def gnum (gl : List (Nat × Nat)) (g : Nat) : Nat := look (fun x => x) (g + 100) gl g
theorem gok_of {f : FuncId → Option (Nat × Nat)} {gl : List (Nat × Nat)} {gs : List (Nat × DV × K)} {S : Stab} (hlow : (gs.all fun x => Nat.blt x.1 100) = true)
  (h : ∀ x ∈ gl, ∀ v k, look some none gs x.2 = some (v, k) → (∃ e, W.shape? x.1 = some (e, k.size)) ∧ ∃ c, At W S x.1 0 k.size c ∧ RelD W S v (mkV k c)) : GOK ⟨f, gnum gl⟩ (look some none gs) W S := by
 intro g v k hg
 change look some none gs (gnum gl g) = _ at hg
 unfold gnum at hg
 rcases look_mem (f := fun x => x) (z := g + 100) (l := gl) (n := g) with h1 | ⟨x, h1, h2⟩
 ·exfalso
  rw [h1] at hg
  rcases look_mem (f := some) (z := none) (l := gs) (n := g + 100) with h3 | ⟨y, h3, -⟩
  ·rw [h3] at hg; cases hg
  ·have := List.all_eq_true.1 hlow _ h3
   have := Nat.le_of_ble_eq_true this
   omega
 ·rw [h2] at hg
  exact h (g, x) h1 v k hg
end
end Go.Sim
end
