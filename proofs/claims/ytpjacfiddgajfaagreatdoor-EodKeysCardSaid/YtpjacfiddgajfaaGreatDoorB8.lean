/- Part 8 of the proof: CbA52b. -/
import Derived.Test.YtpjacfiddgajfaaGreatDoorB2
namespace Go.Sim
def L548_0 : PC :=
 sq (sq (.reg [
 O 7 (.mov (.t 5)),
 O 8 (.faddr 8 (.t 3)),
 O 9 (.load K0 (.t 8)),
 O 10 (.len false (.t 9)),
 O 11 (.bin .lss (.t 7) (.t 10))] [10, 9, 8, 7]) (
 .cond (.t 11) (.skip)
 (.exit 0))) (
 sq (.block 1 (
 sq (.regD [
 O 14 (.load (K1 22) (.t 2)),
 O 15 (.faddr 8 (.t 3)),
 O 16 (.load K0 (.t 15)),
 O 17 (.mov (.t 5)),
 O 18 (.iaddr (K1 3) (.t 16) (.t 17)),
 O 19 (.load (K1 3) (.t 18)),
 O 20 (.faddr 1 (.t 3)),
 O 21 (.load K0 (.t 20)),
 O 22 (.call 0 606 [(.t 14), (.t 19), (.t 21)]),
 O 6 (.mov (.t 22))] [0, 0, 2, 0, 14, 30, 0, 64, 255, 511] [22, 21, 20, 19, 18, 17, 16, 15, 14]) (
 sq (.reg [
 O 23 (.mov (.t 6)),
 O 24 (.bin .neq (.t 23) (.c (I 0)))] [23]) (
 .cond (.t 24) (sq (.reg [
 O 25 (.mov (.t 6)),
 O 4 (.mov (.t 25))] [6, 25]) (
 .ret))
 (.skip))))) (
 .reg [
 O 12 (.mov (.t 5)),
 O 13 (.bin .add (.t 12) (.c (I 1))),
 O 5 (.mov (.t 13))] [13, 12]))
def F548 : PF := ⟨2, [.t 4],
 sq (.reg [
 O 2 (.box (K1 22) (.t 0)),
 O 3 (.box (K1 10) (.t 1)),
 O 4 (.mov (.c (I 0)))] [4, 1, 0]) (
 sq (sq (.reg [
 O 5 (.mov (.c (I 0)))] []) (
 .block 0 (
 .loop [2, 3, 5] L548_0))) (
 sq (.reg [
 O 4 (.mov (.c (I 0)))] []) (
 .ret)))⟩
def L552_0 : PC :=
 sq (sq (.reg [
 O 22 (.mov (.t 3)),
 O 23 (.mov (.t 0)),
 O 24 (.len true (.t 23)),
 O 25 (.bin .lss (.t 22) (.t 24))] [24, 23, 22]) (
 .cond (.t 25) (.skip)
 (.exit 0))) (
 sq (.block 1 (
 sq (.reg [
 O 28 (.mov (.t 0)),
 O 29 (.mov (.t 3)),
 O 30 (.idxS (.t 28) (.t 29)),
 O 31 (.bin .lss (.t 30) (.c (.i .u8 97))),
 O 32 (.mov (.t 31)),
 OG 33 32 false (.mov (.t 0)),
 OG 34 32 false (.mov (.t 3)),
 OG 35 32 false (.idxS (.t 33) (.t 34)),
 OG 36 32 false (.bin .gtr (.t 35) (.c (.i .u8 122))),
 O 37 (.pick (.t 32) (.c (.b true)) (.t 36)),
 O 38 (.mov (.t 37)),
 OG 39 38 true (.mov (.t 0)),
 OG 40 38 true (.mov (.t 3)),
 OG 41 38 true (.idxS (.t 39) (.t 40)),
 OG 42 38 true (.bin .lss (.t 41) (.c (.i .u8 48))),
 OG 43 38 true (.mov (.t 42)),
 OG 44 43 false (.mov (.t 0)),
 OG 45 43 false (.mov (.t 3)),
 OG 46 43 false (.idxS (.t 44) (.t 45)),
 OG 47 43 false (.bin .gtr (.t 46) (.c (.i .u8 57))),
 OG 48 38 true (.pick (.t 43) (.c (.b true)) (.t 47)),
 O 49 (.pick (.t 38) (.t 48) (.c (.b false))),
 O 50 (.mov (.t 49)),
 OG 51 50 true (.mov (.t 0)),
 OG 52 50 true (.mov (.t 3)),
 OG 53 50 true (.idxS (.t 51) (.t 52)),
 OG 54 50 true (.bin .neq (.t 53) (.c (.i .u8 95))),
 O 55 (.pick (.t 50) (.t 54) (.c (.b false)))] [54, 53, 52, 51, 50, 49, 48, 47, 46, 45, 44, 43, 42, 41, 40, 39, 38, 37, 36, 35, 34, 33, 32, 31, 30, 29, 28]) (
 .cond (.t 55) (sq (.reg [
 O 2 (.mov (.c (.b false)))] []) (
 .ret))
 (.skip)))) (
 .reg [
 O 26 (.mov (.t 3)),
 O 27 (.bin .add (.t 26) (.c (I 1))),
 O 3 (.mov (.t 27))] [27, 26]))
def F552 : PF := ⟨1, [.t 2],
 sq (.reg [
 O 2 (.mov (.c (.b false)))] [2]) (
 sq (sq (.reg [
 O 4 (.mov (.t 0)),
 O 5 (.len true (.t 4)),
 O 6 (.bin .lss (.t 5) (.c (I 1))),
 O 7 (.mov (.t 6)),
 OG 8 7 false (.mov (.t 0)),
 OG 9 7 false (.len true (.t 8)),
 OG 10 7 false (.bin .gtr (.t 9) (.c (I 16))),
 O 11 (.pick (.t 7) (.c (.b true)) (.t 10)),
 O 12 (.mov (.t 11)),
 OG 13 12 false (.mov (.t 0)),
 OG 14 12 false (.idxS (.t 13) (.c (I 0))),
 OG 15 12 false (.bin .lss (.t 14) (.c (.i .u8 97))),
 O 16 (.pick (.t 12) (.c (.b true)) (.t 15)),
 O 17 (.mov (.t 16)),
 OG 18 17 false (.mov (.t 0)),
 OG 19 17 false (.idxS (.t 18) (.c (I 0))),
 OG 20 17 false (.bin .gtr (.t 19) (.c (.i .u8 122))),
 O 21 (.pick (.t 17) (.c (.b true)) (.t 20))] [20, 19, 18, 17, 16, 15, 14, 13, 12, 11, 10, 9, 8, 7, 6, 5, 4]) (
 .cond (.t 21) (sq (.reg [
 O 2 (.mov (.c (.b false)))] []) (
 .ret))
 (.skip))) (
 sq (sq (.reg [
 O 3 (.mov (.c (I 0)))] []) (
 .block 0 (
 .loop [0, 3] L552_0))) (
 sq (.reg [
 O 2 (.mov (.c (.b true)))] []) (
 .ret))))⟩
def L553_0 : PC :=
 sq (sq (.reg [
 O 6 (.mov (.t 5)),
 O 7 (.mov (.t 0)),
 O 8 (.len false (.t 7)),
 O 9 (.bin .lss (.t 6) (.t 8))] [8, 7, 6]) (
 .cond (.t 9) (.skip)
 (.exit 0))) (
 sq (.block 1 (
 sq (.reg [
 O 12 (.mov (.t 0)),
 O 13 (.mov (.t 5)),
 O 14 (.iaddr K0 (.t 12) (.t 13)),
 O 15 (.load K0 (.t 14)),
 O 16 (.mov (.t 1)),
 O 17 (.bin .eql (.t 15) (.t 16))] [16, 15, 14, 13, 12]) (
 .cond (.t 17) (sq (.reg [
 O 4 (.mov (.c (.b true)))] []) (
 .ret))
 (.skip)))) (
 .reg [
 O 10 (.mov (.t 5)),
 O 11 (.bin .add (.t 10) (.c (I 1))),
 O 5 (.mov (.t 11))] [11, 10]))
def F553 : PF := ⟨2, [.t 4],
 sq (.reg [
 O 4 (.mov (.c (.b false)))] [4]) (
 sq (sq (.reg [
 O 5 (.mov (.c (I 0)))] []) (
 .block 0 (
 .loop [0, 1, 5] L553_0))) (
 sq (.reg [
 O 4 (.mov (.c (.b false)))] []) (
 .ret)))⟩
def F554 : PF := ⟨1, [.t 2],
 sq (.reg [
 O 2 (.mov (.c (I 0)))] [2]) (
 sq (sq (.reg [
 O 3 (.mov (.t 0)),
 O 4 (.call 0 544 [(.t 3)]),
 O 5 (.un .not (.t 4))] [4, 3]) (
 .cond (.t 5) (sq (.reg [
 O 2 (.mov (.c (I (-1))))] []) (
 .ret))
 (.skip))) (
 sq (.reg [
 O 6 (.mov (.t 0)),
 O 7 (.bin .add (.t 6) (.c (I 5))),
 O 8 (.bin .rem (.t 7) (.c (I 7))),
 O 2 (.mov (.t 8))] [8, 7, 0, 6]) (
 .ret)))⟩
def F560 : PF := ⟨3, [.t 4],
 sq (.reg [
 O 3 (.box (K1 10) (.t 0)),
 O 4 (.mov (.c (.b false)))] [4, 0]) (
 sq (sq (.reg [
 O 5 (.faddr 0 (.t 1)),
 O 6 (.load K0 (.t 5)),
 O 7 (.bin .eql (.t 6) (.c (I 9)))] [6, 5]) (
 .cond (.t 7) (sq (.reg [
 O 8 (.faddr 1 (.t 3)),
 O 9 (.load K0 (.t 8)),
 O 10 (.faddr 0 (.t 2)),
 O 11 (.load K0 (.t 10)),
 O 12 (.bin .gtr (.t 9) (.t 11)),
 O 4 (.mov (.t 12))] [12, 11, 2, 10, 9, 3, 8]) (
 .ret))
 (.skip))) (
 sq (.regD [
 O 13 (.faddr 6 (.t 3)),
 O 14 (.load K0 (.t 13)),
 O 15 (.faddr 0 (.t 2)),
 O 16 (.load K0 (.t 15)),
 O 17 (.load (K1 2) (.t 1)),
 O 18 (.call 0 561 [(.t 16), (.t 17)]),
 O 19 (.call 0 207 [(.t 14), (.t 18)]),
 O 4 (.mov (.t 19))] [0, 1, 0, 4, 0, 28, 63, 127] [19, 18, 1, 17, 16, 2, 15, 14, 3, 13]) (
 .ret)))⟩
def F561 : PF := ⟨2, [.t 4],
 sq (.reg [
 O 3 (.box (K1 2) (.t 1)),
 O 4 (.mov (.c (.s [])))] [4, 1]) (
 sq (.regD [
 O 5 (.mov (.t 0)),
 O 6 (.call 0 109 [(.t 5)]),
 O 7 (.bin .add (.c (.s [101, 111, 100, 47])) (.t 6)),
 O 8 (.bin .add (.t 7) (.c (.s [47]))),
 O 9 (.faddr 0 (.t 3)),
 O 10 (.load K0 (.t 9)),
 O 11 (.call 0 109 [(.t 10)]),
 O 12 (.bin .add (.t 8) (.t 11)),
 O 13 (.bin .add (.t 12) (.c (.s [47]))),
 O 14 (.faddr 1 (.t 3)),
 O 15 (.load K0 (.t 14)),
 O 16 (.call 0 109 [(.t 15)]),
 O 17 (.bin .add (.t 13) (.t 16)),
 O 18 (.bin .add (.t 17) (.c (.s [47]))),
 O 4 (.mov (.t 18))] [0, 1, 3, 7, 0, 16, 51, 127, 255, 0, 512, 1651, 4095, 8191, 16383] [18, 17, 16, 15, 14, 13, 12, 11, 10, 3, 9, 8, 7, 6, 0, 5]) (
 .ret))⟩
def F564 : PF := ⟨2, [.t 4, .t 5],
 sq (.reg [
 O 2 (.box (K1 42) (.t 0)),
 O 3 (.box (K1 2) (.t 1)),
 O 4 (.mov (.c (.l (K1 10) [] true))),
 O 5 (.mov (.c (I 0)))] [5, 4, 1, 0]) (
 sq (.reg [
 O 9 (.load (K1 42) (.t 2)),
 O 10 (.load (K1 2) (.t 3)),
 O 11 (.call 0 567 [(.t 9), (.t 10)]),
 O 8 (.mov (.t 11)),
 O 12 (.ext (.t 8) 0),
 O 13 (.ext (.t 8) 1),
 O 6 (.alloc (K1 70) (.a [(I 0), (I 0), (.s []), (.l (K1 2) [] true), (.l (K1 3) [] true), (.l (K1 4) [] true), (I 0), (I 0), (I 0), (I 0), (I 0), (I 0), (I 0), (I 0), (I 0), (I 0), (I 0), (I 0), (I 0), (I 0), (.l (K1 19) [] true), (.l (K1 7) [] true), (.l (K1 10) [] true), (.l (K1 6) [] true), (.l (K1 7) [] true), (.l (K1 11) [] true), (.l (K1 25) [] true), (.l (K1 10) [] true), (.l (K1 7) [] true), (.l (K1 9) [] true), (.l (K1 7) [] true), (.l (K1 7) [] true), (.l (K1 3) [] true), (.l (K1 35) [] true), (.l (K1 5) [] true), (.b false), (I 0), (I 0), (I 0), (I 0), (.l (K1 3) [] true), (.l (K1 3) [] true), (I 0), (I 0), (.l (K1 2) [] true), (.l (K1 3) [] true), (.l (K1 4) [] true), (I 0), (I 0), (I 0), (I 0), (I 0), (I 0), (I 0), (I 0), (I 0), (I 0), (I 0), (I 0), (I 0), (I 0), (.l (K1 19) [] true), (.l (K1 7) [] true), (.l (K1 10) [] true), (.l (K1 6) [] true), (.l (K1 7) [] true), (.s []), (.l K0 [] true), (.l K0 [] true), (I 0)])),
 E (.store (K1 70) (.t 6) (.t 12)),
 O 7 (.mov (.t 13))] [13, 12, 8, 11, 3, 10, 2, 9]) (
 sq (sq (.reg [
 O 14 (.mov (.t 7)),
 O 15 (.un .not (.t 14))] [7, 14]) (
 .cond (.t 15) (sq (.reg [
 O 4 (.mov (.c (.l (K1 10) [] true))),
 O 5 (.mov (.c (I 1)))] []) (
 .ret))
 (.skip))) (
 sq (.reg [
 O 16 (.load (K1 70) (.t 6)),
 O 17 (.call 0 568 [(.t 16)]),
 O 18 (.call 0 234 [(.t 17)]),
 O 4 (.mov (.t 18)),
 O 5 (.mov (.c (I 0)))] [18, 17, 6, 16]) (
 .ret))))⟩
def F567 : PF := ⟨2, [.c 4 (K1 70), .t 5],
 sq (.reg [
 O 2 (.box (K1 42) (.t 0)),
 O 3 (.box (K1 2) (.t 1)),
 O 4 (.alloc (K1 70) (.a [(I 0), (I 0), (.s []), (.l (K1 2) [] true), (.l (K1 3) [] true), (.l (K1 4) [] true), (I 0), (I 0), (I 0), (I 0), (I 0), (I 0), (I 0), (I 0), (I 0), (I 0), (I 0), (I 0), (I 0), (I 0), (.l (K1 19) [] true), (.l (K1 7) [] true), (.l (K1 10) [] true), (.l (K1 6) [] true), (.l (K1 7) [] true), (.l (K1 11) [] true), (.l (K1 25) [] true), (.l (K1 10) [] true), (.l (K1 7) [] true), (.l (K1 9) [] true), (.l (K1 7) [] true), (.l (K1 7) [] true), (.l (K1 3) [] true), (.l (K1 35) [] true), (.l (K1 5) [] true), (.b false), (I 0), (I 0), (I 0), (I 0), (.l (K1 3) [] true), (.l (K1 3) [] true), (I 0), (I 0), (.l (K1 2) [] true), (.l (K1 3) [] true), (.l (K1 4) [] true), (I 0), (I 0), (I 0), (I 0), (I 0), (I 0), (I 0), (I 0), (I 0), (I 0), (I 0), (I 0), (I 0), (I 0), (.l (K1 19) [] true), (.l (K1 7) [] true), (.l (K1 10) [] true), (.l (K1 6) [] true), (.l (K1 7) [] true), (.s []), (.l K0 [] true), (.l K0 [] true), (I 0)])),
 O 5 (.mov (.c (.b false)))] [5, 1, 0]) (
 sq (.reg [
 O 11 (.faddr 3 (.t 2)),
 O 12 (.faddr 1 (.t 11)),
 O 13 (.load K0 (.t 12)),
 O 14 (.faddr 2 (.t 2)),
 O 15 (.load K0 (.t 14)),
 O 16 (.call 0 172 [(.t 13), (.t 15)]),
 O 10 (.mov (.t 16)),
 O 17 (.ext (.t 10) 0),
 O 18 (.ext (.t 10) 1),
 O 6 (.alloc (K1 3) (.a [(.s []), (.l K0 [] true), (.l K0 [] true)])),
 E (.store (K1 3) (.t 6) (.t 17)),
 O 7 (.mov (.t 18))] [18, 17, 10, 16, 15, 14, 13, 12, 11]) (
 sq (sq (.regD [
 O 19 (.mov (.t 7)),
 O 20 (.un .not (.t 19)),
 O 21 (.mov (.t 20)),
 OG 22 21 false (.faddr 35 (.t 2)),
 OG 23 21 false (.faddr 0 (.t 22)),
 OG 24 21 false (.load K0 (.t 23)),
 OG 25 21 false (.un .not (.t 24)),
 O 26 (.pick (.t 21) (.c (.b true)) (.t 25)),
 O 27 (.mov (.t 26)),
 OG 28 27 false (.faddr 35 (.t 2)),
 OG 29 27 false (.faddr 2 (.t 28)),
 OG 30 27 false (.load K0 (.t 29)),
 OG 31 27 false (.call 0 336 [(.t 30)]),
 OG 32 27 false (.load (K1 2) (.t 3)),
 OG 33 27 false (.call 0 610 [(.t 31), (.t 32)]),
 OG 34 27 false (.un .not (.t 33)),
 O 35 (.pick (.t 27) (.c (.b true)) (.t 34)),
 O 36 (.mov (.t 35)),
 OG 37 36 false (.faddr 0 (.t 2)),
 OG 38 36 false (.load K0 (.t 37)),
 OG 39 36 false (.bin .lss (.t 38) (.c (I 0))),
 O 40 (.pick (.t 36) (.c (.b true)) (.t 39)),
 O 41 (.mov (.t 40)),
 OG 42 41 false (.faddr 0 (.t 2)),
 OG 43 41 false (.load K0 (.t 42)),
 OG 44 41 false (.bin .geq (.t 43) (.c (I 73048))),
 O 45 (.pick (.t 41) (.c (.b true)) (.t 44))] [0, 1, 3, 7, 15, 31, 63, 127, 255, 511, 1023, 2047, 4095, 511, 16383, 32767, 65535, 131071, 262143, 524287, 1048575, 2097151, 4194303, 8388607, 16777215, 33554431, 67108863] [44, 43, 42, 41, 40, 39, 38, 37, 36, 35, 34, 33, 32, 31, 30, 29, 28, 27, 26, 25, 24, 23, 22, 21, 20, 7, 19]) (
 .cond (.t 45) (sq (.reg [
 O 46 (.agg [(I 0), (I 0), (.s []), (.l (K1 2) [] true), (.l (K1 3) [] true), (.l (K1 4) [] true), (I 0), (I 0), (I 0), (I 0), (I 0), (I 0), (I 0), (I 0), (I 0), (I 0), (I 0), (I 0), (I 0), (I 0), (.l (K1 19) [] true), (.l (K1 7) [] true), (.l (K1 10) [] true), (.l (K1 6) [] true), (.l (K1 7) [] true), (.l (K1 11) [] true), (.l (K1 25) [] true), (.l (K1 10) [] true), (.l (K1 7) [] true), (.l (K1 9) [] true), (.l (K1 7) [] true), (.l (K1 7) [] true), (.l (K1 3) [] true), (.l (K1 35) [] true), (.l (K1 5) [] true), (.b false), (I 0), (I 0), (I 0), (I 0), (.l (K1 3) [] true), (.l (K1 3) [] true), (I 0), (I 0), (.l (K1 2) [] true), (.l (K1 3) [] true), (.l (K1 4) [] true), (I 0), (I 0), (I 0), (I 0), (I 0), (I 0), (I 0), (I 0), (I 0), (I 0), (I 0), (I 0), (I 0), (I 0), (.l (K1 19) [] true), (.l (K1 7) [] true), (.l (K1 10) [] true), (.l (K1 6) [] true), (.l (K1 7) [] true), (.s []), (.l K0 [] true), (.l K0 [] true), (I 0)] []),
 E (.store (K1 70) (.t 4) (.t 46)),
 O 5 (.mov (.c (.b false)))] [46]) (
 .ret))
 (.skip))) (
 sq (.reg [
 O 48 (.load (K1 3) (.t 6)),
 O 49 (.faddr 0 (.t 2)),
 O 50 (.load K0 (.t 49)),
 O 51 (.bin .add (.t 50) (.c (I 1))),
 O 52 (.call 0 287 [(.t 48), (.t 51)]),
 O 47 (.mov (.t 52)),
 O 53 (.ext (.t 47) 0),
 O 54 (.ext (.t 47) 1),
 O 8 (.mov (.t 53)),
 O 9 (.mov (.t 54))] [54, 53, 47, 52, 51, 50, 49, 48]) (
 sq (.regD [
 O 55 (.load (K1 42) (.t 2)),
 O 56 (.load (K1 2) (.t 3)),
 O 57 (.load (K1 42) (.t 2)),
 O 58 (.load (K1 2) (.t 3)),
 O 59 (.call 0 528 [(.t 57), (.t 58)]),
 O 60 (.load (K1 3) (.t 6)),
 O 61 (.mov (.t 8)),
 O 62 (.agg [(I 0), (I 0), (.s []), (.l (K1 2) [] true), (.l (K1 3) [] true), (.l (K1 4) [] true), (I 0), (I 0), (I 0), (I 0), (I 0), (I 0), (I 0), (I 0), (I 0), (I 0), (I 0), (I 0), (I 0), (I 0), (.l (K1 19) [] true), (.l (K1 7) [] true), (.l (K1 10) [] true), (.l (K1 6) [] true), (.l (K1 7) [] true), (.l (K1 11) [] true), (.l (K1 25) [] true), (.l (K1 10) [] true), (.l (K1 7) [] true), (.l (K1 9) [] true), (.l (K1 7) [] true), (.l (K1 7) [] true), (.l (K1 3) [] true), (.l (K1 35) [] true), (.l (K1 5) [] true), (.b false), (I 0), (I 0), (I 0), (I 0), (.l (K1 3) [] true), (.l (K1 3) [] true), (I 0), (I 0), (.l (K1 2) [] true), (.l (K1 3) [] true), (.l (K1 4) [] true), (I 0), (I 0), (I 0), (I 0), (I 0), (I 0), (I 0), (I 0), (I 0), (I 0), (I 0), (I 0), (I 0), (I 0), (.l (K1 19) [] true), (.l (K1 7) [] true), (.l (K1 10) [] true), (.l (K1 6) [] true), (.l (K1 7) [] true), (.s []), (.l K0 [] true), (.l K0 [] true), (I 0)] [(0, (K1 42), (.t 55)), (42, (K1 2), (.t 56)), (44, (K1 22), (.t 59)), (66, (K1 3), (.t 60)), (69, K0, (.t 61))]),
 O 63 (.mov (.t 9)),
 O 64 (.bin .eql (.t 63) (.c (I 0))),
 E (.store (K1 70) (.t 4) (.t 62)),
 O 5 (.mov (.t 64))] [0, 0, 0, 0, 12, 0, 0, 127, 0, 256, 255, 2047] [64, 9, 63, 62, 8, 61, 6, 60, 59, 58, 57, 3, 56, 2, 55]) (
 .ret)))))⟩
def F568 : PF := ⟨1, [.t 2],
 sq (.reg [
 O 1 (.box (K1 70) (.t 0)),
 O 2 (.mov (.c (.l (K1 10) [] true)))] [2, 0]) (
 sq (.reg [
 O 4 (.load (K1 70) (.t 1)),
 O 5 (.mkm 611 [(.t 4)]),
 O 3 (.mov (.t 5))] [5, 4]) (
 sq (sq (.reg [
 O 6 (.faddr 42 (.t 1)),
 O 7 (.faddr 0 (.t 6)),
 O 8 (.load K0 (.t 7))] [7, 6]) (
 .block 0 (
 sq (.reg [
 O 10 (.bin .eql (.t 8) (.c (I 2))),
 O 9 (.mov (.t 10))] [10]) (
 .cond (.t 9) (.reg [
 O 11 (.load (K1 70) (.t 1)),
 O 12 (.mkm 612 [(.t 11)]),
 O 3 (.mov (.t 12))] [12, 1, 11])
 (sq (.reg [
 O 14 (.bin .eql (.t 8) (.c (I 3))),
 O 13 (.mov (.t 14))] [14]) (
 .cond (.t 13) (.reg [
 O 15 (.load (K1 70) (.t 1)),
 O 16 (.mkm 613 [(.t 15)]),
 O 3 (.mov (.t 16))] [16, 1, 15])
 (sq (.reg [
 O 18 (.bin .eql (.t 8) (.c (I 4))),
 O 17 (.mov (.t 18))] [18]) (
 .cond (.t 17) (.reg [
 O 19 (.load (K1 70) (.t 1)),
 O 20 (.mkm 614 [(.t 19)]),
 O 3 (.mov (.t 20))] [20, 1, 19])
 (sq (.reg [
 O 22 (.bin .eql (.t 8) (.c (I 5))),
 O 21 (.mov (.t 22))] [22]) (
 .cond (.t 21) (.reg [
 O 23 (.load (K1 70) (.t 1)),
 O 24 (.mkm 615 [(.t 23)]),
 O 3 (.mov (.t 24))] [24, 1, 23])
 (sq (.reg [
 O 26 (.bin .eql (.t 8) (.c (I 6))),
 O 25 (.mov (.t 26))] [26]) (
 .cond (.t 25) (.reg [
 O 27 (.load (K1 70) (.t 1)),
 O 28 (.mkm 616 [(.t 27)]),
 O 3 (.mov (.t 28))] [28, 1, 27])
 (sq (.reg [
 O 30 (.bin .eql (.t 8) (.c (I 7))),
 O 29 (.mov (.t 30))] [8, 30]) (
 .cond (.t 29) (.reg [
 O 31 (.load (K1 70) (.t 1)),
 O 32 (.mkm 617 [(.t 31)]),
 O 3 (.mov (.t 32))] [32, 1, 31])
 (.skip))))))))))))))) (
 sq (.reg [
 O 33 (.mov (.t 3)),
 O 34 (.callv (.t 33) []),
 O 2 (.mov (.t 34))] [34, 3, 33]) (
 .ret))))⟩
def F569 : PF := ⟨3, [.c 6 (K1 42)],
 sq (.reg [
 O 3 (.box (K1 70) (.t 0)),
 O 4 (.box (K1 42) (.t 1)),
 O 6 (.alloc (K1 42) (.a [(I 0), (I 0), (.s []), (.l (K1 2) [] true), (.l (K1 3) [] true), (.l (K1 4) [] true), (I 0), (I 0), (I 0), (I 0), (I 0), (I 0), (I 0), (I 0), (I 0), (I 0), (I 0), (I 0), (I 0), (I 0), (.l (K1 19) [] true), (.l (K1 7) [] true), (.l (K1 10) [] true), (.l (K1 6) [] true), (.l (K1 7) [] true), (.l (K1 11) [] true), (.l (K1 25) [] true), (.l (K1 10) [] true), (.l (K1 7) [] true), (.l (K1 9) [] true), (.l (K1 7) [] true), (.l (K1 7) [] true), (.l (K1 3) [] true), (.l (K1 35) [] true), (.l (K1 5) [] true), (.b false), (I 0), (I 0), (I 0), (I 0), (.l (K1 3) [] true), (.l (K1 3) [] true)]))] [1, 0]) (
 sq (sq (.reg [
 O 7 (.faddr 42 (.t 3)),
 O 8 (.faddr 0 (.t 7)),
 O 9 (.load K0 (.t 8))] [8, 7]) (
 .block 0 (
 sq (.reg [
 O 11 (.bin .eql (.t 9) (.c (I 1))),
 O 10 (.mov (.t 11))] [11]) (
 .cond (.t 10) (sq (.reg [
 O 12 (.load (K1 70) (.t 3)),
 O 13 (.load (K1 42) (.t 4)),
 O 14 (.call 0 618 [(.t 12), (.t 13)]),
 E (.store (K1 42) (.t 6) (.t 14))] [14, 4, 13, 3, 12]) (
 .ret))
 (sq (.reg [
 O 16 (.bin .eql (.t 9) (.c (I 2))),
 O 15 (.mov (.t 16))] [16]) (
 .cond (.t 15) (sq (.reg [
 O 17 (.load (K1 70) (.t 3)),
 O 18 (.load (K1 42) (.t 4)),
 O 19 (.mov (.t 2)),
 O 20 (.call 0 619 [(.t 17), (.t 18), (.t 19)]),
 E (.store (K1 42) (.t 6) (.t 20))] [20, 2, 19, 4, 18, 3, 17]) (
 .ret))
 (sq (.reg [
 O 22 (.bin .eql (.t 9) (.c (I 3))),
 O 21 (.mov (.t 22))] [22]) (
 .cond (.t 21) (sq (.reg [
 O 23 (.load (K1 70) (.t 3)),
 O 24 (.load (K1 42) (.t 4)),
 O 25 (.mov (.t 2)),
 O 26 (.call 0 620 [(.t 23), (.t 24), (.t 25)]),
 E (.store (K1 42) (.t 6) (.t 26))] [26, 2, 25, 4, 24, 3, 23]) (
 .ret))
 (sq (.reg [
 O 28 (.bin .eql (.t 9) (.c (I 5))),
 O 27 (.mov (.t 28))] [28]) (
 .cond (.t 27) (sq (.reg [
 O 29 (.load (K1 70) (.t 3)),
 O 30 (.load (K1 42) (.t 4)),
 O 31 (.mov (.t 2)),
 O 32 (.call 0 621 [(.t 29), (.t 30), (.t 31)]),
 E (.store (K1 42) (.t 6) (.t 32))] [32, 2, 31, 4, 30, 3, 29]) (
 .ret))
 (sq (.reg [
 O 34 (.bin .eql (.t 9) (.c (I 6))),
 O 33 (.mov (.t 34))] [34]) (
 .cond (.t 33) (sq (.reg [
 O 35 (.load (K1 70) (.t 3)),
 O 36 (.load (K1 42) (.t 4)),
 O 37 (.mov (.t 2)),
 O 38 (.call 0 622 [(.t 35), (.t 36), (.t 37)]),
 E (.store (K1 42) (.t 6) (.t 38))] [38, 2, 37, 4, 36, 3, 35]) (
 .ret))
 (sq (.reg [
 O 40 (.bin .eql (.t 9) (.c (I 7))),
 O 39 (.mov (.t 40))] [40]) (
 .cond (.t 39) (sq (.reg [
 O 41 (.load (K1 70) (.t 3)),
 O 42 (.load (K1 42) (.t 4)),
 O 43 (.call 0 623 [(.t 41), (.t 42)]),
 E (.store (K1 42) (.t 6) (.t 43))] [43, 4, 42, 3, 41]) (
 .ret))
 (sq (.reg [
 O 45 (.bin .eql (.t 9) (.c (I 8))),
 O 44 (.mov (.t 45))] [9, 45]) (
 .cond (.t 44) (sq (.reg [
 O 46 (.load (K1 70) (.t 3)),
 O 47 (.load (K1 42) (.t 4)),
 O 48 (.call 0 624 [(.t 46), (.t 47)]),
 E (.store (K1 42) (.t 6) (.t 48))] [48, 4, 47, 3, 46]) (
 .ret))
 (.skip))))))))))))))))) (
 sq (.reg [
 O 49 (.load (K1 42) (.t 4)),
 E (.store (K1 42) (.t 6) (.t 49))] [4, 49]) (
 .ret)))⟩
def F594 : PF := ⟨2, [.c 4 (K1 22), .c 5 K0],
 sq (.reg [
 O 2 (.box (K1 22) (.t 0)),
 O 3 (.box (K1 10) (.t 1)),
 O 4 (.alloc (K1 22) (.a [(.l (K1 2) [] true), (.l (K1 3) [] true), (.l (K1 4) [] true), (I 0), (I 0), (I 0), (I 0), (I 0), (I 0), (I 0), (I 0), (I 0), (I 0), (I 0), (I 0), (I 0), (I 0), (.l (K1 19) [] true), (.l (K1 7) [] true), (.l (K1 10) [] true), (.l (K1 6) [] true), (.l (K1 7) [] true)])),
 O 5 (.alloc K0 (I 0))] [1, 0]) (
 sq (.reg [
 O 8 (.mkf 673 [(.t 5), (.t 4), (.t 2)]),
 O 100000 (.dfr (.t 8) (.t 100000))] [100000, 8]) (
 sq (sq (.reg [
 O 9 (.load (K1 10) (.t 3)),
 O 10 (.call 0 111 [(.t 9)]),
 E (.store K0 (.t 5) (.t 10))] [10, 9]) (
 sq (.reg [
 O 11 (.load K0 (.t 5)),
 O 12 (.bin .neq (.t 11) (.c (I 0)))] [11]) (
 .cond (.t 12) (.ret)
 (.skip)))) (
 sq (sq (.reg [
 O 14 (.faddr 19 (.t 2)),
 O 15 (.load K0 (.t 14)),
 O 16 (.faddr 6 (.t 3)),
 O 17 (.load K0 (.t 16)),
 O 18 (.call 0 495 [(.t 15), (.t 17)]),
 O 13 (.mov (.t 18)),
 O 19 (.ext (.t 13) 0),
 O 20 (.ext (.t 13) 1),
 O 6 (.alloc (K1 10) (.a [(I 0), (I 0), (I 0), (I 0), (I 0), (I 0), (.s []), (.s []), (.l (K1 3) [] true), (.i .u64 0)])),
 E (.store (K1 10) (.t 6) (.t 19)),
 O 7 (.mov (.t 20))] [6, 20, 19, 13, 18, 17, 16, 15, 14]) (
 sq (.reg [
 O 21 (.mov (.t 7))] [7]) (
 .cond (.t 21) (sq (.reg [
 O 22 (.load (K1 22) (.t 4)),
 E (.store (K1 22) (.t 4) (.t 22)),
 E (.store K0 (.t 5) (.c (I 12)))] [22]) (
 .ret))
 (.skip)))) (
 sq (sq (.reg [
 O 23 (.load (K1 22) (.t 2)),
 O 24 (.load (K1 10) (.t 3)),
 O 25 (.call 0 168 [(.t 23), (.t 24)]),
 E (.store K0 (.t 5) (.t 25))] [25, 24, 23]) (
 sq (.reg [
 O 26 (.load K0 (.t 5)),
 O 27 (.bin .neq (.t 26) (.c (I 0)))] [26]) (
 .cond (.t 27) (.ret)
 (.skip)))) (
 sq (sq (.reg [
 O 28 (.load (K1 22) (.t 2)),
 O 29 (.load (K1 10) (.t 3)),
 O 30 (.call 0 674 [(.t 28), (.t 29)]),
 E (.store K0 (.t 5) (.t 30))] [30, 29, 28]) (
 sq (.reg [
 O 31 (.load K0 (.t 5)),
 O 32 (.bin .neq (.t 31) (.c (I 0)))] [31]) (
 .cond (.t 32) (.ret)
 (.skip)))) (
 sq (.reg [
 O 33 (.load (K1 22) (.t 2)),
 E (.store (K1 22) (.t 4) (.t 33))] [33]) (
 sq (.reg [
 O 35 (.faddr 19 (.t 2)),
 O 36 (.load K0 (.t 35)),
 O 37 (.load (K1 10) (.t 3)),
 O 38 (.call 0 675 [(.t 36), (.t 37)]),
 O 34 (.mov (.t 38)),
 O 39 (.ext (.t 34) 0),
 O 40 (.ext (.t 34) 1),
 O 41 (.faddr 19 (.t 4)),
 E (.store K0 (.t 41) (.t 39)),
 E (.store K0 (.t 5) (.t 40))] [41, 40, 39, 34, 38, 3, 37, 36, 2, 35]) (
 .ret))))))))⟩
def L595_0 : PC :=
 sq (sq (.reg [
 O 4 (.mov (.t 3)),
 O 5 (.mov (.t 0)),
 O 6 (.len false (.t 5)),
 O 7 (.bin .lss (.t 4) (.t 6))] [6, 5, 4]) (
 .cond (.t 7) (.skip)
 (.exit 0))) (
 sq (.block 1 (
 sq (.regD [
 O 10 (.mov (.t 0)),
 O 11 (.mov (.t 3)),
 O 12 (.iaddr K0 (.t 10) (.t 11)),
 O 13 (.load K0 (.t 12)),
 O 14 (.mov (.t 0)),
 O 15 (.mov (.t 3)),
 O 16 (.bin .sub (.t 15) (.c (I 1))),
 O 17 (.iaddr K0 (.t 14) (.t 16)),
 O 18 (.load K0 (.t 17)),
 O 19 (.bin .leq (.t 13) (.t 18))] [0, 0, 3, 7, 0, 0, 32, 112, 240, 511] [18, 17, 16, 15, 14, 13, 12, 11, 10]) (
 .cond (.t 19) (sq (.reg [
 O 2 (.mov (.c (.b false)))] []) (
 .ret))
 (.skip)))) (
 .reg [
 O 8 (.mov (.t 3)),
 O 9 (.bin .add (.t 8) (.c (I 1))),
 O 3 (.mov (.t 9))] [9, 8]))
def F595 : PF := ⟨1, [.t 2],
 sq (.reg [
 O 2 (.mov (.c (.b false)))] [2]) (
 sq (sq (.reg [
 O 3 (.mov (.c (I 1)))] []) (
 .block 0 (
 .loop [0, 3] L595_0))) (
 sq (.reg [
 O 2 (.mov (.c (.b true)))] []) (
 .ret)))⟩
def L596_0 : PC :=
 sq (sq (.reg [
 O 6 (.mov (.t 5)),
 O 7 (.mov (.t 0)),
 O 8 (.len false (.t 7)),
 O 9 (.bin .lss (.t 6) (.t 8))] [8, 7, 6]) (
 .cond (.t 9) (.skip)
 (.exit 0))) (
 sq (.block 1 (
 sq (.reg [
 O 12 (.mov (.t 0)),
 O 13 (.mov (.t 5)),
 O 14 (.iaddr (K1 4) (.t 12) (.t 13)),
 O 15 (.faddr 1 (.t 14)),
 O 16 (.load K0 (.t 15)),
 O 17 (.mov (.t 1)),
 O 18 (.bin .eql (.t 16) (.t 17))] [17, 16, 15, 14, 13, 12]) (
 .cond (.t 18) (sq (.reg [
 O 4 (.mov (.c (.b true)))] []) (
 .ret))
 (.skip)))) (
 .reg [
 O 10 (.mov (.t 5)),
 O 11 (.bin .add (.t 10) (.c (I 1))),
 O 5 (.mov (.t 11))] [11, 10]))
def F596 : PF := ⟨2, [.t 4],
 sq (.reg [
 O 4 (.mov (.c (.b false)))] [4]) (
 sq (sq (.reg [
 O 5 (.mov (.c (I 0)))] []) (
 .block 0 (
 .loop [0, 1, 5] L596_0))) (
 sq (.reg [
 O 4 (.mov (.c (.b false)))] []) (
 .ret)))⟩
def L598_0 : PC :=
 sq (sq (.reg [
 O 21 (.mov (.t 3)),
 O 22 (.mov (.t 0)),
 O 23 (.len true (.t 22)),
 O 24 (.bin .lss (.t 21) (.t 23))] [23, 22, 21]) (
 .cond (.t 24) (.skip)
 (.exit 0))) (
 sq (.block 1 (
 sq (.reg [
 O 27 (.mov (.t 0)),
 O 28 (.mov (.t 3)),
 O 29 (.idxS (.t 27) (.t 28)),
 O 30 (.bin .lss (.t 29) (.c (.i .u8 97))),
 O 31 (.mov (.t 30)),
 OG 32 31 false (.mov (.t 0)),
 OG 33 31 false (.mov (.t 3)),
 OG 34 31 false (.idxS (.t 32) (.t 33)),
 OG 35 31 false (.bin .gtr (.t 34) (.c (.i .u8 122))),
 O 36 (.pick (.t 31) (.c (.b true)) (.t 35)),
 O 37 (.mov (.t 36)),
 OG 38 37 true (.mov (.t 0)),
 OG 39 37 true (.mov (.t 3)),
 OG 40 37 true (.idxS (.t 38) (.t 39)),
 OG 41 37 true (.bin .lss (.t 40) (.c (.i .u8 48))),
 OG 42 37 true (.mov (.t 41)),
 OG 43 42 false (.mov (.t 0)),
 OG 44 42 false (.mov (.t 3)),
 OG 45 42 false (.idxS (.t 43) (.t 44)),
 OG 46 42 false (.bin .gtr (.t 45) (.c (.i .u8 57))),
 OG 47 37 true (.pick (.t 42) (.c (.b true)) (.t 46)),
 O 48 (.pick (.t 37) (.t 47) (.c (.b false))),
 O 49 (.mov (.t 48)),
 OG 50 49 true (.mov (.t 0)),
 OG 51 49 true (.mov (.t 3)),
 OG 52 49 true (.idxS (.t 50) (.t 51)),
 OG 53 49 true (.bin .neq (.t 52) (.c (.i .u8 95))),
 O 54 (.pick (.t 49) (.t 53) (.c (.b false)))] [53, 52, 51, 50, 49, 48, 47, 46, 45, 44, 43, 42, 41, 40, 39, 38, 37, 36, 35, 34, 33, 32, 31, 30, 29, 28, 27]) (
 .cond (.t 54) (sq (.reg [
 O 2 (.mov (.c (.b false)))] []) (
 .ret))
 (.skip)))) (
 .reg [
 O 25 (.mov (.t 3)),
 O 26 (.bin .add (.t 25) (.c (I 1))),
 O 3 (.mov (.t 26))] [26, 25]))
def F598 : PF := ⟨1, [.t 2],
 sq (.reg [
 O 2 (.mov (.c (.b false)))] [2]) (
 sq (sq (.reg [
 O 4 (.mov (.t 0)),
 O 5 (.bin .eql (.t 4) (.c (.s []))),
 O 6 (.mov (.t 5)),
 OG 7 6 false (.mov (.t 0)),
 OG 8 6 false (.len true (.t 7)),
 OG 9 6 false (.bin .gtr (.t 8) (.c (I 16))),
 O 10 (.pick (.t 6) (.c (.b true)) (.t 9)),
 O 11 (.mov (.t 10)),
 OG 12 11 false (.mov (.t 0)),
 OG 13 11 false (.idxS (.t 12) (.c (I 0))),
 OG 14 11 false (.bin .lss (.t 13) (.c (.i .u8 97))),
 O 15 (.pick (.t 11) (.c (.b true)) (.t 14)),
 O 16 (.mov (.t 15)),
 OG 17 16 false (.mov (.t 0)),
 OG 18 16 false (.idxS (.t 17) (.c (I 0))),
 OG 19 16 false (.bin .gtr (.t 18) (.c (.i .u8 122))),
 O 20 (.pick (.t 16) (.c (.b true)) (.t 19))] [19, 18, 17, 16, 15, 14, 13, 12, 11, 10, 9, 8, 7, 6, 5, 4]) (
 .cond (.t 20) (sq (.reg [
 O 2 (.mov (.c (.b false)))] []) (
 .ret))
 (.skip))) (
 sq (sq (.reg [
 O 3 (.mov (.c (I 1)))] []) (
 .block 0 (
 .loop [0, 3] L598_0))) (
 sq (.reg [
 O 2 (.mov (.c (.b true)))] []) (
 .ret))))⟩
def L599_0 : PC :=
 sq (sq (.reg [
 O 7 (.mov (.t 6)),
 O 8 (.mov (.t 0)),
 O 9 (.len false (.t 8)),
 O 10 (.bin .lss (.t 7) (.t 9))] [9, 8, 7]) (
 .cond (.t 10) (.skip)
 (.exit 0))) (
 sq (.block 1 (
 sq (.reg [
 O 13 (.mov (.t 0)),
 O 14 (.mov (.t 6)),
 O 15 (.iaddr (K1 2) (.t 13) (.t 14)),
 O 16 (.faddr 0 (.t 15)),
 O 17 (.load K0 (.t 16)),
 O 18 (.mov (.t 1)),
 O 19 (.bin .eql (.t 17) (.t 18))] [18, 17, 16, 15, 14, 13]) (
 .cond (.t 19) (sq (.reg [
 O 20 (.mov (.t 0)),
 O 21 (.mov (.t 6)),
 O 22 (.iaddr (K1 2) (.t 20) (.t 21)),
 O 23 (.load (K1 2) (.t 22)),
 E (.store (K1 2) (.t 4) (.t 23)),
 O 5 (.mov (.c (.b true)))] [23, 22, 6, 21, 0, 20]) (
 .ret))
 (.skip)))) (
 .reg [
 O 11 (.mov (.t 6)),
 O 12 (.bin .add (.t 11) (.c (I 1))),
 O 6 (.mov (.t 12))] [12, 11]))
def F599 : PF := ⟨2, [.c 4 (K1 2), .t 5],
 sq (.reg [
 O 4 (.alloc (K1 2) (.a [(.s []), (I 0)])),
 O 5 (.mov (.c (.b false)))] [5]) (
 sq (sq (.reg [
 O 6 (.mov (.c (I 0)))] []) (
 .block 0 (
 .loop [0, 1, 4, 6] L599_0))) (
 sq (.reg [
 O 24 (.agg [(.s []), (I 0)] []),
 E (.store (K1 2) (.t 4) (.t 24)),
 O 5 (.mov (.c (.b false)))] [24]) (
 .ret)))⟩
def F600 : PF := ⟨1, [.t 2],
 sq (.reg [
 O 1 (.box (K1 5) (.t 0)),
 O 2 (.mov (.c (I 0)))] [2, 0]) (
 sq (sq (.reg [
 O 4 (.faddr 0 (.t 1)),
 O 5 (.load K0 (.t 4)),
 O 6 (.call 0 676 [(.t 5)]),
 O 3 (.mov (.t 6))] [6, 5, 4]) (
 sq (.reg [
 O 7 (.mov (.t 3)),
 O 8 (.bin .neq (.t 7) (.c (I 0)))] [7]) (
 .cond (.t 8) (sq (.reg [
 O 9 (.mov (.t 3)),
 O 2 (.mov (.t 9))] [3, 9]) (
 .ret))
 (.skip)))) (
 sq (sq (.reg [
 O 10 (.faddr 2 (.t 1)),
 O 11 (.load K0 (.t 10)),
 O 12 (.bin .lss (.t 11) (.c (I 1))),
 O 13 (.mov (.t 12)),
 OG 14 13 false (.faddr 2 (.t 1)),
 OG 15 13 false (.load K0 (.t 14)),
 OG 16 13 false (.bin .gtr (.t 15) (.c (I 4))),
 O 17 (.pick (.t 13) (.c (.b true)) (.t 16)),
 O 18 (.mov (.t 17)),
 OG 19 18 false (.faddr 3 (.t 1)),
 OG 20 18 false (.load K0 (.t 19)),
 OG 21 18 false (.bin .lss (.t 20) (.c (I 1))),
 O 22 (.pick (.t 18) (.c (.b true)) (.t 21)),
 O 23 (.mov (.t 22)),
 OG 24 23 false (.faddr 3 (.t 1)),
 OG 25 23 false (.load K0 (.t 24)),
 OG 26 23 false (.bin .gtr (.t 25) (.c (I 6))),
 O 27 (.pick (.t 23) (.c (.b true)) (.t 26))] [26, 25, 24, 23, 22, 21, 20, 19, 18, 17, 16, 15, 14, 13, 12, 11, 1, 10]) (
 .cond (.t 27) (sq (.reg [
 O 2 (.mov (.c (I 1)))] []) (
 .ret))
 (.skip))) (
 sq (.reg [
 O 2 (.mov (.c (I 0)))] []) (
 .ret))))⟩
def L603_0 : PC :=
 sq (sq (.reg [
 O 10 (.mov (.t 9)),
 O 11 (.mov (.t 0)),
 O 12 (.len false (.t 11)),
 O 13 (.bin .lss (.t 10) (.t 12))] [12, 11, 10]) (
 .cond (.t 13) (.skip)
 (.exit 0))) (
 sq (.block 1 (
 sq (.regD [
 O 16 (.mov (.t 0)),
 O 17 (.mov (.t 9)),
 O 18 (.iaddr (K1 19) (.t 16) (.t 17)),
 O 19 (.faddr 0 (.t 18)),
 O 20 (.load K0 (.t 19)),
 O 21 (.mov (.t 1)),
 O 22 (.bin .eql (.t 20) (.t 21)),
 O 23 (.mov (.t 22)),
 OG 24 23 true (.mov (.t 0)),
 OG 25 23 true (.mov (.t 9)),
 OG 26 23 true (.iaddr (K1 19) (.t 24) (.t 25)),
 OG 27 23 true (.faddr 3 (.t 26)),
 OG 28 23 true (.load K0 (.t 27)),
 OG 29 23 true (.mov (.t 2)),
 OG 30 23 true (.bin .leq (.t 28) (.t 29)),
 O 31 (.pick (.t 23) (.t 30) (.c (.b false))),
 O 32 (.mov (.t 31)),
 OG 33 32 true (.mov (.t 8)),
 OG 34 32 true (.bin .lss (.t 33) (.c (I 0))),
 OG 35 32 true (.mov (.t 34)),
 OG 36 35 false (.mov (.t 0)),
 OG 37 35 false (.mov (.t 9)),
 OG 38 35 false (.iaddr (K1 19) (.t 36) (.t 37)),
 OG 39 35 false (.faddr 3 (.t 38)),
 OG 40 35 false (.load K0 (.t 39)),
 OG 41 35 false (.mov (.t 0)),
 OG 42 35 false (.mov (.t 8)),
 OG 43 35 false (.iaddr (K1 19) (.t 41) (.t 42)),
 OG 44 35 false (.faddr 3 (.t 43)),
 OG 45 35 false (.load K0 (.t 44)),
 OG 46 35 false (.bin .gtr (.t 40) (.t 45)),
 OG 47 32 true (.pick (.t 35) (.c (.b true)) (.t 46)),
 O 48 (.pick (.t 32) (.t 47) (.c (.b false)))] [0, 0, 3, 7, 15, 0, 63, 127, 255, 255, 1023, 2047, 4095, 255, 16383, 32767, 65535, 131071, 262143, 524287, 1048575, 1048575, 4194303, 8388607, 16777215, 1048575, 1048575, 101711871, 235929599, 504365055, 1073741823, 2147483647, 4294967295] [47, 46, 45, 44, 43, 42, 41, 40, 39, 38, 37, 36, 35, 34, 33, 32, 31, 30, 29, 28, 27, 26, 25, 24, 23, 22, 21, 20, 19, 18, 17, 16]) (
 .cond (.t 48) (.reg [
 O 49 (.mov (.t 9)),
 O 8 (.mov (.t 49))] [49])
 (.skip)))) (
 .reg [
 O 14 (.mov (.t 9)),
 O 15 (.bin .add (.t 14) (.c (I 1))),
 O 9 (.mov (.t 15))] [15, 14]))
def F603 : PF := ⟨3, [.c 6 (K1 19), .t 7],
 sq (.reg [
 O 6 (.alloc (K1 19) (.a [(.s []), (.s []), (.s []), (I 0), (I 0), (I 0), (I 0), (.l (K1 2) [] true), (.b false), (I 0), (I 0), (.b false), (.l (K1 2) [] true), (.b false), (I 0), (I 0), (.b false), (.l (K1 10) [] true), (.l (K1 6) [] true)])),
 O 7 (.mov (.c (.b false)))] [7]) (
 sq (.reg [
 O 8 (.mov (.c (I (-1))))] []) (
 sq (sq (.reg [
 O 9 (.mov (.c (I 0)))] []) (
 .block 0 (
 .loop [0, 1, 2, 6, 8, 9] L603_0))) (
 sq (sq (.reg [
 O 50 (.mov (.t 8)),
 O 51 (.bin .lss (.t 50) (.c (I 0)))] [50]) (
 .cond (.t 51) (sq (.reg [
 O 52 (.agg [(.s []), (.s []), (.s []), (I 0), (I 0), (I 0), (I 0), (.l (K1 2) [] true), (.b false), (I 0), (I 0), (.b false), (.l (K1 2) [] true), (.b false), (I 0), (I 0), (.b false), (.l (K1 10) [] true), (.l (K1 6) [] true)] []),
 E (.store (K1 19) (.t 6) (.t 52)),
 O 7 (.mov (.c (.b false)))] [52]) (
 .ret))
 (.skip))) (
 sq (.reg [
 O 53 (.mov (.t 0)),
 O 54 (.mov (.t 8)),
 O 55 (.iaddr (K1 19) (.t 53) (.t 54)),
 O 56 (.load (K1 19) (.t 55)),
 E (.store (K1 19) (.t 6) (.t 56)),
 O 7 (.mov (.c (.b true)))] [56, 55, 8, 54, 0, 53]) (
 .ret)))))⟩
def L604_0 : PC :=
 sq (sq (.reg [
 O 12 (.mov (.t 6)),
 O 13 (.mov (.t 0)),
 O 14 (.len false (.t 13)),
 O 15 (.bin .lss (.t 12) (.t 14))] [14, 13, 12]) (
 .cond (.t 15) (.skip)
 (.exit 0))) (
 sq (.block 1 (
 sq (.regD [
 O 18 (.mov (.t 0)),
 O 19 (.mov (.t 6)),
 O 20 (.iaddr (K1 10) (.t 18) (.t 19)),
 O 21 (.faddr 6 (.t 20)),
 O 22 (.load K0 (.t 21)),
 O 23 (.faddr 6 (.t 3)),
 O 24 (.load K0 (.t 23)),
 O 25 (.bin .eql (.t 22) (.t 24))] [0, 0, 3, 7, 15, 0, 32, 127] [24, 23, 22, 21, 20, 19, 18]) (
 .cond (.t 25) (sq (.reg [
 O 4 (.mov (.c (I 12)))] []) (
 .ret))
 (.skip)))) (
 .reg [
 O 16 (.mov (.t 6)),
 O 17 (.bin .add (.t 16) (.c (I 1))),
 O 6 (.mov (.t 17))] [17, 16]))
def F604 : PF := ⟨2, [.t 4],
 sq (.reg [
 O 3 (.box (K1 10) (.t 1)),
 O 4 (.mov (.c (I 0)))] [4, 1]) (
 sq (.reg [
 O 7 (.load (K1 10) (.t 3)),
 O 8 (.call 0 679 [(.t 7)]),
 O 5 (.mov (.t 8))] [8, 7]) (
 sq (sq (.reg [
 O 9 (.mov (.t 5)),
 O 10 (.bin .neq (.t 9) (.c (I 0)))] [9]) (
 .cond (.t 10) (sq (.reg [
 O 11 (.mov (.t 5)),
 O 4 (.mov (.t 11))] [5, 11]) (
 .ret))
 (.skip))) (
 sq (sq (.reg [
 O 6 (.mov (.c (I 0)))] []) (
 .block 0 (
 .loop [0, 3, 6] L604_0))) (
 sq (sq (.regD [
 O 26 (.mov (.t 0)),
 O 27 (.len false (.t 26)),
 O 28 (.bin .gtr (.t 27) (.c (I 0))),
 O 29 (.mov (.t 28)),
 OG 30 29 true (.faddr 1 (.t 3)),
 OG 31 29 true (.load K0 (.t 30)),
 OG 32 29 true (.mov (.t 0)),
 OG 33 29 true (.mov (.t 0)),
 OG 34 29 true (.len false (.t 33)),
 OG 35 29 true (.bin .sub (.t 34) (.c (I 1))),
 OG 36 29 true (.iaddr (K1 10) (.t 32) (.t 35)),
 OG 37 29 true (.faddr 1 (.t 36)),
 OG 38 29 true (.load K0 (.t 37)),
 OG 39 29 true (.bin .lss (.t 31) (.t 38)),
 O 40 (.pick (.t 29) (.t 39) (.c (.b false)))] [0, 1, 3, 7, 15, 31, 15, 15, 143, 399, 975, 1999, 4047, 8191, 16383] [39, 38, 37, 36, 35, 34, 33, 32, 31, 3, 30, 29, 28, 27, 26]) (
 .cond (.t 40) (sq (.reg [
 O 4 (.mov (.c (I 10)))] []) (
 .ret))
 (.skip))) (
 sq (sq (.reg [
 O 41 (.mov (.t 0)),
 O 42 (.len false (.t 41)),
 O 43 (.bin .geq (.t 42) (.c (I 4096)))] [42, 0, 41]) (
 .cond (.t 43) (sq (.reg [
 O 4 (.mov (.c (I 5)))] []) (
 .ret))
 (.skip))) (
 sq (.reg [
 O 4 (.mov (.c (I 0)))] []) (
 .ret)))))))⟩
def F605 : PF := ⟨2, [.c 4 (K1 10)],
 sq (.reg [
 O 3 (.box (K1 10) (.t 1)),
 O 4 (.alloc (K1 10) (.a [(I 0), (I 0), (I 0), (I 0), (I 0), (I 0), (.s []), (.s []), (.l (K1 3) [] true), (.i .u64 0)]))] [1]) (
 sq (.reg [
 O 5 (.mov (.c (.i .u64 0)))] []) (
 sq (sq (.reg [
 O 6 (.mov (.t 0)),
 O 7 (.len false (.t 6)),
 O 8 (.bin .gtr (.t 7) (.c (I 0)))] [7, 6]) (
 .cond (.t 8) (.reg [
 O 9 (.mov (.t 0)),
 O 10 (.mov (.t 0)),
 O 11 (.len false (.t 10)),
 O 12 (.bin .sub (.t 11) (.c (I 1))),
 O 13 (.iaddr (K1 10) (.t 9) (.t 12)),
 O 14 (.faddr 9 (.t 13)),
 O 15 (.load K0 (.t 14)),
 O 5 (.mov (.t 15))] [15, 14, 13, 12, 11, 10, 9])
 (.skip))) (
 sq (.reg [
 O 16 (.mov (.t 0)),
 O 17 (.len false (.t 16)),
 O 18 (.bin .add (.t 17) (.c (I 1))),
 O 19 (.faddr 0 (.t 3)),
 E (.store K0 (.t 19) (.t 18))] [19, 18, 17, 0, 16]) (
 sq (.reg [
 O 20 (.mov (.t 5)),
 O 21 (.load (K1 10) (.t 3)),
 O 22 (.call 0 681 [(.t 21)]),
 O 23 (.call 0 680 [(.t 20), (.t 22)]),
 O 24 (.faddr 9 (.t 3)),
 E (.store K0 (.t 24) (.t 23))] [24, 23, 22, 21, 5, 20]) (
 sq (.reg [
 O 25 (.load (K1 10) (.t 3)),
 E (.store (K1 10) (.t 4) (.t 25))] [3, 25]) (
 .ret))))))⟩
def F606 : PF := ⟨3, [.t 6],
 sq (.reg [
 O 3 (.box (K1 22) (.t 0)),
 O 4 (.box (K1 3) (.t 1)),
 O 6 (.mov (.c (I 0)))] [6, 1, 0]) (
 sq (.reg [
 O 16 (.faddr 0 (.t 3)),
 O 17 (.load K0 (.t 16)),
 O 18 (.faddr 2 (.t 4)),
 O 19 (.load K0 (.t 18)),
 O 20 (.call 0 599 [(.t 17), (.t 19)]),
 O 15 (.mov (.t 20)),
 O 21 (.ext (.t 15) 0),
 O 22 (.ext (.t 15) 1),
 O 7 (.alloc (K1 2) (.a [(.s []), (I 0)])),
 E (.store (K1 2) (.t 7) (.t 21)),
 O 8 (.mov (.t 22))] [7, 22, 21, 15, 20, 19, 18, 17, 16]) (
 sq (sq (.reg [
 O 23 (.faddr 0 (.t 4)),
 O 24 (.load K0 (.t 23)),
 O 25 (.bin .lss (.t 24) (.c (I 1000)))] [24, 23]) (
 .cond (.t 25) (sq (.reg [
 O 27 (.faddr 2 (.t 3)),
 O 28 (.load K0 (.t 27)),
 O 29 (.faddr 0 (.t 4)),
 O 30 (.load K0 (.t 29)),
 O 31 (.call 0 540 [(.t 28), (.t 30)]),
 O 26 (.mov (.t 31)),
 O 32 (.ext (.t 26) 0),
 O 33 (.ext (.t 26) 1),
 O 9 (.alloc (K1 4) (.a [(I 0), (I 0), (I 0), (.s [])])),
 E (.store (K1 4) (.t 9) (.t 32)),
 O 10 (.mov (.t 33))] [9, 33, 32, 26, 31, 30, 29, 28, 27]) (
 sq (sq (.reg [
 O 34 (.mov (.t 10)),
 O 35 (.un .not (.t 34)),
 O 36 (.mov (.t 35)),
 OG 37 36 false (.faddr 2 (.t 3)),
 OG 38 36 false (.load K0 (.t 37)),
 OG 39 36 false (.faddr 0 (.t 4)),
 OG 40 36 false (.load K0 (.t 39)),
 OG 41 36 false (.call 0 682 [(.t 38), (.t 40)]),
 O 42 (.pick (.t 36) (.c (.b true)) (.t 41))] [41, 40, 4, 39, 38, 3, 37, 36, 35, 10, 34]) (
 .cond (.t 42) (sq (.reg [
 O 6 (.mov (.c (I 11)))] []) (
 .ret))
 (.skip))) (
 sq (sq (.reg [
 O 43 (.mov (.t 8)),
 O 44 (.un .not (.t 43))] [8, 43]) (
 .cond (.t 44) (sq (.reg [
 O 6 (.mov (.c (I 14)))] []) (
 .ret))
 (.skip))) (
 sq (.reg [
 O 6 (.mov (.c (I 0)))] []) (
 .ret)))))
 (.skip))) (
 sq (.reg [
 O 46 (.load (K1 22) (.t 3)),
 O 47 (.faddr 0 (.t 4)),
 O 48 (.load K0 (.t 47)),
 O 49 (.call 0 683 [(.t 46), (.t 48)]),
 O 45 (.mov (.t 49)),
 O 50 (.ext (.t 45) 0),
 O 51 (.ext (.t 45) 1),
 O 11 (.alloc (K1 7) (.a [(I 0), (I 0), (I 0), (I 0), (.s []), (.s []), (.s [])])),
 E (.store (K1 7) (.t 11) (.t 50)),
 O 12 (.mov (.t 51))] [51, 50, 45, 49, 48, 47, 46]) (
 sq (sq (.reg [
 O 52 (.mov (.t 12)),
 O 53 (.un .not (.t 52))] [12, 52]) (
 .cond (.t 53) (sq (.reg [
 O 6 (.mov (.c (I 11)))] []) (
 .ret))
 (.skip))) (
 sq (.reg [
 O 55 (.faddr 17 (.t 3)),
 O 56 (.load K0 (.t 55)),
 O 57 (.faddr 5 (.t 11)),
 O 58 (.load K0 (.t 57)),
 O 59 (.faddr 1 (.t 11)),
 O 60 (.load K0 (.t 59)),
 O 61 (.call 0 603 [(.t 56), (.t 58), (.t 60)]),
 O 54 (.mov (.t 61)),
 O 62 (.ext (.t 54) 0),
 O 63 (.ext (.t 54) 1),
 O 13 (.alloc (K1 19) (.a [(.s []), (.s []), (.s []), (I 0), (I 0), (I 0), (I 0), (.l (K1 2) [] true), (.b false), (I 0), (I 0), (.b false), (.l (K1 2) [] true), (.b false), (I 0), (I 0), (.b false), (.l (K1 10) [] true), (.l (K1 6) [] true)])),
 E (.store (K1 19) (.t 13) (.t 62)),
 O 14 (.mov (.t 63))] [63, 62, 54, 61, 60, 59, 58, 11, 57, 56, 55]) (
 sq (sq (.reg [
 O 64 (.mov (.t 8)),
 O 65 (.un .not (.t 64)),
 O 66 (.mov (.t 65)),
 OG 67 66 false (.mov (.t 14)),
 OG 68 66 false (.un .not (.t 67)),
 O 69 (.pick (.t 66) (.c (.b true)) (.t 68)),
 O 70 (.mov (.t 69)),
 OG 71 70 false (.faddr 1 (.t 13)),
 OG 72 70 false (.load K0 (.t 71)),
 OG 73 70 false (.faddr 2 (.t 4)),
 OG 74 70 false (.load K0 (.t 73)),
 OG 75 70 false (.bin .neq (.t 72) (.t 74)),
 O 76 (.pick (.t 70) (.c (.b true)) (.t 75))] [75, 74, 73, 72, 13, 71, 70, 69, 68, 14, 67, 66, 65, 8, 64]) (
 .cond (.t 76) (sq (.reg [
 O 6 (.mov (.c (I 14)))] []) (
 .ret))
 (.skip))) (
 sq (sq (.reg [
 O 77 (.load (K1 22) (.t 3)),
 O 78 (.faddr 0 (.t 4)),
 O 79 (.load K0 (.t 78)),
 O 80 (.mov (.t 2)),
 O 81 (.call 0 684 [(.t 77), (.t 79), (.t 80)]),
 O 82 (.un .not (.t 81))] [81, 2, 80, 79, 4, 78, 3, 77]) (
 .cond (.t 82) (sq (.reg [
 O 6 (.mov (.c (I 16)))] []) (
 .ret))
 (.skip))) (
 sq (.reg [
 O 6 (.mov (.c (I 0)))] []) (
 .ret)))))))))⟩
def F607 : PF := ⟨1, [.t 2],
 sq (.reg [
 O 2 (.mov (.c (.b false)))] [2]) (
 sq (.reg [
 O 3 (.mov (.t 0)),
 O 4 (.len true (.t 3)),
 O 5 (.bin .geq (.t 4) (.c (I 1))),
 O 6 (.mov (.t 5)),
 OG 7 6 true (.mov (.t 0)),
 OG 8 6 true (.call 0 685 [(.t 7), (.c (I 48)), (.c (.i .u8 33))]),
 O 9 (.pick (.t 6) (.t 8) (.c (.b false))),
 O 2 (.mov (.t 9))] [9, 8, 7, 6, 5, 4, 0, 3]) (
 .ret))⟩
def F610 : PF := ⟨2, [.t 4],
 sq (.reg [
 O 3 (.box (K1 2) (.t 1)),
 O 4 (.mov (.c (.b false)))] [4, 1]) (
 sq (.reg [
 O 5 (.mov (.t 0)),
 O 6 (.load (K1 2) (.t 3)),
 O 7 (.call 0 686 [(.t 5), (.t 6)]),
 O 8 (.bin .geq (.t 7) (.c (I 0))),
 O 4 (.mov (.t 8))] [8, 7, 3, 6, 0, 5]) (
 .ret))⟩
def L612_0 : PC :=
 sq (.reg [
 O 11 (.bin .lss (.t 10) (.t 9))] []) (
 sq (.cond (.t 11) (.skip)
 (.exit 0)) (
 sq (.block 1 (
 sq (.reg [
 O 12 (.mov (.t 10)),
 O 13 (.iaddr (K1 10) (.t 8) (.t 10)),
 O 14 (.load (K1 10) (.t 13)),
 O 5 (.alloc (K1 10) (.a [(I 0), (I 0), (I 0), (I 0), (I 0), (I 0), (I 0), (I 0), (I 0), (.s [])])),
 O 4 (.mov (.t 12)),
 E (.store (K1 10) (.t 5) (.t 14))] [14, 13, 12]) (
 sq (.regD [
 O 15 (.faddr 9 (.t 5)),
 O 16 (.load K0 (.t 15)),
 O 17 (.load (K1 70) (.t 1)),
 O 18 (.mov (.t 4)),
 O 19 (.call 0 688 [(.t 17), (.t 18)]),
 O 20 (.agg [(I 0), (I 0), (I 0), (I 0), (I 0), (I 0), (.s []), (.s []), (.l (K1 3) [] true), (.i .u64 0)] [(3, K0, (.c (I 3))), (7, K0, (.t 16)), (6, K0, (.t 19))]),
 O 6 (.alloc (K1 10) (.a [(I 0), (I 0), (I 0), (I 0), (I 0), (I 0), (.s []), (.s []), (.l (K1 3) [] true), (.i .u64 0)])),
 E (.store (K1 10) (.t 6) (.t 20))] [0, 1, 0, 0, 12, 31, 0, 127] [20, 19, 4, 18, 17, 16, 15]) (
 .regD [
 O 21 (.mov (.t 3)),
 O 22 (.load (K1 70) (.t 1)),
 O 23 (.load (K1 10) (.t 6)),
 O 24 (.faddr 1 (.t 5)),
 O 25 (.load K0 (.t 24)),
 O 26 (.faddr 2 (.t 5)),
 O 27 (.load K0 (.t 26)),
 O 28 (.faddr 3 (.t 5)),
 O 29 (.load K0 (.t 28)),
 O 30 (.load (K1 70) (.t 1)),
 O 31 (.faddr 1 (.t 5)),
 O 32 (.load K0 (.t 31)),
 O 33 (.call 0 690 [(.t 30), (.t 32)]),
 O 34 (.call 0 689 [(.t 22), (.t 23), (.t 25), (.t 27), (.t 29), (.t 33)]),
 O 35 (.bsl (K1 10) (.a [(I 0), (I 0), (I 0), (I 0), (I 0), (I 0), (.s []), (.s []), (.l (K1 3) [] true), (.i .u64 0)]) 1 [(0, (.t 34))]),
 O 36 (.app (K1 10) 112 (.t 21) (.t 35)),
 O 3 (.mov (.t 36))] [0, 0, 0, 0, 8, 0, 32, 0, 128, 0, 0, 1024, 3584, 8190, 16382, 32767, 65535] [36, 35, 34, 33, 32, 31, 30, 29, 28, 27, 26, 25, 5, 24, 6, 23, 22, 21])))) (
 .reg [
 O 37 (.bin .add (.t 10) (.c (I 1))),
 O 10 (.mov (.t 37))] [37])))
def F612 : PF := ⟨1, [.t 2],
 sq (.reg [
 O 1 (.box (K1 70) (.t 0)),
 O 2 (.mov (.c (.l (K1 10) [] true)))] [2, 0]) (
 sq (.reg [
 O 3 (.mov (.c (.l (K1 10) [] true)))] []) (
 sq (sq (.reg [
 O 7 (.load (K1 70) (.t 1)),
 O 8 (.call 0 687 [(.t 7)]),
 O 9 (.len false (.t 8)),
 O 10 (.mov (.c (I 0)))] [7]) (
 .block 0 (
 .loop [1, 3, 8, 9, 10] L612_0))) (
 sq (.reg [
 O 38 (.mov (.t 3)),
 O 2 (.mov (.t 38))] [3, 38]) (
 .ret))))⟩
def L616_0 : PC :=
 sq (.reg [
 O 27 (.bin .lss (.t 26) (.t 25))] []) (
 sq (.cond (.t 27) (.skip)
 (.exit 2)) (
 sq (.block 3 (
 sq (.reg [
 O 28 (.iaddr (K1 10) (.t 24) (.t 26)),
 O 29 (.load (K1 10) (.t 28)),
 O 9 (.alloc (K1 10) (.a [(I 0), (I 0), (I 0), (I 0), (I 0), (I 0), (.s []), (.s []), (.l (K1 3) [] true), (.i .u64 0)])),
 E (.store (K1 10) (.t 9) (.t 29))] [29, 28]) (
 sq (.reg [
 O 30 (.load (K1 70) (.t 1)),
 O 31 (.mov (.t 3)),
 O 32 (.len false (.t 31)),
 O 33 (.call 0 688 [(.t 30), (.t 32)]),
 O 34 (.faddr 0 (.t 9)),
 E (.store K0 (.t 34) (.c (I 0))),
 O 35 (.faddr 9 (.t 9)),
 E (.store K0 (.t 35) (.c (.i .u64 0))),
 O 36 (.faddr 6 (.t 9)),
 E (.store K0 (.t 36) (.t 33))] [36, 35, 34, 33, 32, 31, 30]) (
 .reg [
 O 37 (.mov (.t 3)),
 O 38 (.load (K1 10) (.t 9)),
 O 39 (.bsl (K1 10) (.a [(I 0), (I 0), (I 0), (I 0), (I 0), (I 0), (.s []), (.s []), (.l (K1 3) [] true), (.i .u64 0)]) 1 [(0, (.t 38))]),
 O 40 (.app (K1 10) 112 (.t 37) (.t 39)),
 O 3 (.mov (.t 40))] [40, 39, 9, 38, 37])))) (
 .reg [
 O 41 (.bin .add (.t 26) (.c (I 1))),
 O 26 (.mov (.t 41))] [41])))
def L616_1 : PC :=
 sq (.reg [
 O 14 (.bin .lss (.t 13) (.t 12))] []) (
 sq (.cond (.t 14) (.skip)
 (.exit 0)) (
 sq (.block 1 (
 sq (.reg [
 O 15 (.iaddr (K1 7) (.t 11) (.t 13)),
 O 16 (.load (K1 7) (.t 15)),
 O 5 (.alloc (K1 7) (.a [(I 0), (I 0), (I 0), (I 0), (.s []), (.s []), (.s [])])),
 E (.store (K1 7) (.t 5) (.t 16))] [16, 15]) (
 sq (.reg [
 O 18 (.load (K1 70) (.t 1)),
 O 19 (.faddr 0 (.t 5)),
 O 20 (.load K0 (.t 19)),
 O 21 (.call 0 698 [(.t 18), (.t 20)]),
 O 17 (.mov (.t 21)),
 O 22 (.ext (.t 17) 0),
 O 23 (.ext (.t 17) 1),
 O 6 (.mov (.t 22)),
 O 7 (.mov (.t 23))] [7, 23, 22, 17, 21, 20, 5, 19, 18]) (
 sq (.reg [
 O 24 (.mov (.t 6)),
 O 25 (.len false (.t 24)),
 O 26 (.mov (.c (I 0)))] [6]) (
 .block 2 (
 .loop [1, 3, 11, 12, 13, 24, 25, 26] L616_0)))))) (
 .reg [
 O 42 (.bin .add (.t 13) (.c (I 1))),
 O 13 (.mov (.t 42))] [42])))
def F616 : PF := ⟨1, [.t 2],
 sq (.reg [
 O 1 (.box (K1 70) (.t 0)),
 O 2 (.mov (.c (.l (K1 10) [] true)))] [2, 0]) (
 sq (.reg [
 O 3 (.mov (.c (.l (K1 10) [] true)))] []) (
 sq (sq (.reg [
 O 10 (.load (K1 70) (.t 1)),
 O 11 (.call 0 695 [(.t 10)]),
 O 12 (.len false (.t 11)),
 O 13 (.mov (.c (I 0)))] [10]) (
 .block 0 (
 .loop [1, 3, 11, 12, 13] L616_1))) (
 sq (.reg [
 O 43 (.mov (.t 3)),
 O 2 (.mov (.t 43))] [3, 43]) (
 .ret))))⟩
def L619_0 : PC :=
 sq (.reg [
 O 15 (.bin .lss (.t 14) (.t 13))] []) (
 sq (.cond (.t 15) (.skip)
 (.exit 0)) (
 sq (.block 1 (
 sq (.reg [
 O 16 (.mov (.t 14)),
 O 17 (.iaddr (K1 10) (.t 12) (.t 14)),
 O 18 (.load (K1 10) (.t 17)),
 O 8 (.alloc (K1 10) (.a [(I 0), (I 0), (I 0), (I 0), (I 0), (I 0), (I 0), (I 0), (I 0), (.s [])])),
 O 7 (.mov (.t 16)),
 E (.store (K1 10) (.t 8) (.t 18))] [18, 17, 16]) (
 sq (.regD [
 O 20 (.faddr 27 (.t 4)),
 O 21 (.load K0 (.t 20)),
 O 22 (.faddr 0 (.t 8)),
 O 23 (.load K0 (.t 22)),
 O 24 (.faddr 0 (.t 3)),
 O 25 (.faddr 0 (.t 24)),
 O 26 (.load K0 (.t 25)),
 O 27 (.mov (.t 2)),
 O 28 (.mov (.t 7)),
 O 29 (.iaddr K0 (.t 27) (.t 28)),
 O 30 (.load K0 (.t 29)),
 O 31 (.bin .eql (.t 30) (.c (I 0))),
 O 32 (.faddr 66 (.t 3)),
 O 33 (.load (K1 3) (.t 32)),
 O 34 (.call 0 702 [(.t 21), (.t 23), (.t 26), (.t 31), (.t 33)]),
 O 19 (.mov (.t 34)),
 O 35 (.ext (.t 19) 0),
 O 36 (.ext (.t 19) 1),
 O 9 (.mov (.t 35)),
 O 10 (.mov (.t 36))] [0, 1, 0, 4, 0, 16, 48, 0, 0, 384, 896, 1920, 0, 4096, 16383, 32767, 65535, 65535, 131071, 524287] [36, 35, 19, 34, 33, 32, 31, 30, 29, 7, 28, 27, 26, 25, 24, 23, 8, 22, 21, 20]) (
 sq (.reg [
 O 37 (.mov (.t 10)),
 O 38 (.bin .eql (.t 37) (.c (I 0)))] [10, 37]) (
 .cond (.t 38) (.reg [
 O 39 (.mov (.t 9)),
 O 40 (.faddr 27 (.t 4)),
 E (.store K0 (.t 40) (.t 39))] [40, 9, 39])
 (.skip)))))) (
 .reg [
 O 41 (.bin .add (.t 14) (.c (I 1))),
 O 14 (.mov (.t 41))] [41])))
def F619 : PF := ⟨3, [.c 6 (K1 42)],
 sq (.reg [
 O 3 (.box (K1 70) (.t 0)),
 O 4 (.box (K1 42) (.t 1)),
 O 6 (.alloc (K1 42) (.a [(I 0), (I 0), (.s []), (.l (K1 2) [] true), (.l (K1 3) [] true), (.l (K1 4) [] true), (I 0), (I 0), (I 0), (I 0), (I 0), (I 0), (I 0), (I 0), (I 0), (I 0), (I 0), (I 0), (I 0), (I 0), (.l (K1 19) [] true), (.l (K1 7) [] true), (.l (K1 10) [] true), (.l (K1 6) [] true), (.l (K1 7) [] true), (.l (K1 11) [] true), (.l (K1 25) [] true), (.l (K1 10) [] true), (.l (K1 7) [] true), (.l (K1 9) [] true), (.l (K1 7) [] true), (.l (K1 7) [] true), (.l (K1 3) [] true), (.l (K1 35) [] true), (.l (K1 5) [] true), (.b false), (I 0), (I 0), (I 0), (I 0), (.l (K1 3) [] true), (.l (K1 3) [] true)]))] [1, 0]) (
 sq (sq (.reg [
 O 11 (.load (K1 70) (.t 3)),
 O 12 (.call 0 687 [(.t 11)]),
 O 13 (.len false (.t 12)),
 O 14 (.mov (.c (I 0)))] [11]) (
 .block 0 (
 .loop [2, 3, 4, 6, 12, 13, 14] L619_0))) (
 sq (.reg [
 O 42 (.load (K1 42) (.t 4)),
 E (.store (K1 42) (.t 6) (.t 42))] [4, 42]) (
 .ret)))⟩
def F673 : PF := ⟨3, [],
 sq (.reg [
 O 3 (.load K0 (.t 0)),
 O 4 (.bin .neq (.t 3) (.c (I 0))),
 O 5 (.mov (.t 4)),
 OG 6 5 false (.faddr 19 (.t 1)),
 OG 7 5 false (.load K0 (.t 6)),
 OG 8 5 false (.len false (.t 7)),
 OG 9 5 false (.faddr 19 (.t 2)),
 OG 10 5 false (.load K0 (.t 9)),
 OG 11 5 false (.len false (.t 10)),
 OG 12 5 false (.bin .add (.t 11) (.c (I 1))),
 OG 13 5 false (.bin .neq (.t 8) (.t 12)),
 O 14 (.pick (.t 5) (.c (.b true)) (.t 13))] [13, 12, 11, 10, 2, 9, 8, 7, 6, 5, 4, 0, 3]) (
 .cond (.t 14) (.reg [
 O 15 (.agg [(.l (K1 2) [] true), (.l (K1 3) [] true), (.l (K1 4) [] true), (I 0), (I 0), (I 0), (I 0), (I 0), (I 0), (I 0), (I 0), (I 0), (I 0), (I 0), (I 0), (I 0), (I 0), (.l (K1 19) [] true), (.l (K1 7) [] true), (.l (K1 10) [] true), (.l (K1 6) [] true), (.l (K1 7) [] true)] []),
 E (.store (K1 22) (.t 1) (.t 15))] [1, 15])
 (.skip))⟩
def L674_0 : PC :=
 sq (.reg [
 O 18 (.bin .lss (.t 17) (.t 16))] []) (
 sq (.cond (.t 18) (.skip)
 (.exit 0)) (
 sq (.block 1 (
 sq (.reg [
 O 19 (.iaddr (K1 3) (.t 15) (.t 17)),
 O 20 (.load (K1 3) (.t 19)),
 O 6 (.alloc (K1 3) (.a [(I 0), (I 0), (.s [])])),
 E (.store (K1 3) (.t 6) (.t 20))] [20, 19]) (
 sq (sq (.reg [
 O 21 (.faddr 0 (.t 6)),
 O 22 (.load K0 (.t 21)),
 O 23 (.bin .lss (.t 22) (.c (I 1000)))] [22, 21]) (
 .cond (.t 23) (.exit 1)
 (.skip))) (
 sq (.reg [
 O 25 (.load (K1 22) (.t 2)),
 O 26 (.faddr 0 (.t 6)),
 O 27 (.load K0 (.t 26)),
 O 28 (.call 0 12 [(.t 25), (.t 27)]),
 O 24 (.mov (.t 28)),
 O 29 (.ext (.t 24) 0),
 O 30 (.ext (.t 24) 1),
 O 7 (.alloc (K1 7) (.a [(I 0), (I 0), (I 0), (I 0), (.s []), (.s []), (.s [])])),
 E (.store (K1 7) (.t 7) (.t 29)),
 O 8 (.mov (.t 30))] [7, 30, 29, 24, 28, 27, 26, 25]) (
 .block 2 (
 sq (.reg [
 O 32 (.mov (.t 8)),
 O 33 (.un .not (.t 32)),
 O 31 (.mov (.t 33))] [33, 8, 32]) (
 .cond (.t 31) (sq (.reg [
 O 4 (.mov (.c (I 11)))] []) (
 .ret))
 (sq (.reg [
 O 35 (.load (K1 22) (.t 2)),
 O 36 (.faddr 0 (.t 6)),
 O 37 (.load K0 (.t 36)),
 O 38 (.faddr 1 (.t 3)),
 O 39 (.load K0 (.t 38)),
 O 40 (.call 0 39 [(.t 35), (.t 37), (.t 39)]),
 O 41 (.un .not (.t 40)),
 O 34 (.mov (.t 41))] [41, 40, 39, 38, 37, 36, 35]) (
 .cond (.t 34) (sq (.reg [
 O 4 (.mov (.c (I 16)))] []) (
 .ret))
 (sq (.reg [
 O 43 (.faddr 21 (.t 2)),
 O 44 (.load K0 (.t 43)),
 O 45 (.faddr 0 (.t 6)),
 O 46 (.load K0 (.t 45)),
 O 47 (.faddr 1 (.t 3)),
 O 48 (.load K0 (.t 47)),
 O 49 (.faddr 1 (.t 6)),
 O 50 (.load K0 (.t 49)),
 O 51 (.call 0 767 [(.t 44), (.t 46), (.t 48), (.t 50)]),
 O 42 (.mov (.t 51))] [51, 50, 49, 48, 47, 46, 45, 44, 43]) (
 .cond (.t 42) (sq (.reg [
 O 4 (.mov (.c (I 19)))] []) (
 .ret))
 (sq (.reg [
 O 53 (.faddr 1 (.t 6)),
 O 54 (.load K0 (.t 53)),
 O 55 (.bin .gtr (.t 54) (.c (I 0))),
 O 52 (.mov (.t 55))] [55, 54, 53]) (
 .cond (.t 52) (sq (.reg [
 O 56 (.load (K1 22) (.t 2)),
 O 57 (.faddr 0 (.t 6)),
 O 58 (.load K0 (.t 57)),
 O 59 (.faddr 1 (.t 3)),
 O 60 (.load K0 (.t 59)),
 O 61 (.faddr 1 (.t 6)),
 O 62 (.load K0 (.t 61)),
 O 63 (.call 0 768 [(.t 56), (.t 58), (.t 60), (.t 62)]),
 O 9 (.mov (.t 63))] [63, 62, 61, 60, 59, 58, 6, 57, 56]) (
 sq (.reg [
 O 64 (.mov (.t 9)),
 O 65 (.bin .neq (.t 64) (.c (I 0)))] [64]) (
 .cond (.t 65) (sq (.reg [
 O 66 (.mov (.t 9)),
 O 4 (.mov (.t 66))] [9, 66]) (
 .ret))
 (.skip))))
 (.skip)))))))))))))) (
 .reg [
 O 67 (.bin .add (.t 17) (.c (I 1))),
 O 17 (.mov (.t 67))] [67])))
def F674 : PF := ⟨2, [.t 4],
 sq (.reg [
 O 2 (.box (K1 22) (.t 0)),
 O 3 (.box (K1 10) (.t 1)),
 O 4 (.mov (.c (I 0)))] [4, 1, 0]) (
 sq (sq (.reg [
 O 10 (.faddr 4 (.t 3)),
 O 11 (.load K0 (.t 10)),
 O 12 (.bin .neq (.t 11) (.c (I 0)))] [11, 10]) (
 .cond (.t 12) (sq (.reg [
 O 4 (.mov (.c (I 0)))] []) (
 .ret))
 (.skip))) (
 sq (sq (.reg [
 O 13 (.faddr 8 (.t 3)),
 O 14 (.load K0 (.t 13)),
 O 15 (.call 0 110 [(.t 14)]),
 O 16 (.len false (.t 15)),
 O 17 (.mov (.c (I 0)))] [14, 13]) (
 .block 0 (
 .loop [2, 3, 15, 16, 17] L674_0))) (
 sq (.reg [
 O 4 (.mov (.c (I 0)))] []) (
 .ret))))⟩
def F675 : PF := ⟨2, [.t 4, .t 5],
 sq (.reg [
 O 3 (.box (K1 10) (.t 1)),
 O 4 (.mov (.c (.l (K1 10) [] true))),
 O 5 (.mov (.c (I 0)))] [5, 4, 1]) (
 sq (sq (.reg [
 O 12 (.load (K1 10) (.t 3)),
 O 13 (.call 0 111 [(.t 12)]),
 O 6 (.mov (.t 13))] [13, 12]) (
 sq (.reg [
 O 14 (.mov (.t 6)),
 O 15 (.bin .neq (.t 14) (.c (I 0)))] [14]) (
 .cond (.t 15) (sq (.reg [
 O 16 (.mov (.t 6)),
 O 4 (.mov (.c (.l (K1 10) [] true))),
 O 5 (.mov (.t 16))] [6, 16]) (
 .ret))
 (.skip)))) (
 sq (sq (.reg [
 O 18 (.mov (.t 0)),
 O 19 (.faddr 6 (.t 3)),
 O 20 (.load K0 (.t 19)),
 O 21 (.call 0 495 [(.t 18), (.t 20)]),
 O 17 (.mov (.t 21)),
 O 22 (.ext (.t 17) 0),
 O 23 (.ext (.t 17) 1),
 O 7 (.alloc (K1 10) (.a [(I 0), (I 0), (I 0), (I 0), (I 0), (I 0), (.s []), (.s []), (.l (K1 3) [] true), (.i .u64 0)])),
 E (.store (K1 10) (.t 7) (.t 22)),
 O 8 (.mov (.t 23))] [7, 23, 22, 17, 21, 20, 19, 18]) (
 sq (.reg [
 O 24 (.mov (.t 8))] [8]) (
 .cond (.t 24) (sq (.reg [
 O 4 (.mov (.c (.l (K1 10) [] true))),
 O 5 (.mov (.c (I 12)))] []) (
 .ret))
 (.skip)))) (
 sq (.reg [
 O 26 (.mov (.t 0)),
 O 27 (.call 0 242 [(.t 26)]),
 O 25 (.mov (.t 27)),
 O 28 (.ext (.t 25) 0),
 O 29 (.ext (.t 25) 1),
 O 9 (.mov (.t 28)),
 O 10 (.mov (.t 29))] [29, 28, 25, 27, 26]) (
 sq (sq (.reg [
 O 30 (.mov (.t 0)),
 O 31 (.len false (.t 30)),
 O 32 (.bin .gtr (.t 31) (.c (I 0))),
 O 33 (.mov (.t 32)),
 OG 34 33 true (.faddr 1 (.t 3)),
 OG 35 33 true (.load K0 (.t 34)),
 OG 36 33 true (.mov (.t 10)),
 OG 37 33 true (.bin .lss (.t 35) (.t 36)),
 O 38 (.pick (.t 33) (.t 37) (.c (.b false)))] [37, 10, 36, 35, 34, 33, 32, 31, 30]) (
 .cond (.t 38) (sq (.reg [
 O 4 (.mov (.c (.l (K1 10) [] true))),
 O 5 (.mov (.c (I 10)))] []) (
 .ret))
 (.skip))) (
 sq (sq (.reg [
 O 39 (.mov (.t 0)),
 O 40 (.len false (.t 39)),
 O 41 (.bin .geq (.t 40) (.c (I 4096)))] [40, 39]) (
 .cond (.t 41) (sq (.reg [
 O 4 (.mov (.c (.l (K1 10) [] true))),
 O 5 (.mov (.c (I 5)))] []) (
 .ret))
 (.skip))) (
 sq (.reg [
 O 42 (.mov (.t 0)),
 O 43 (.len false (.t 42)),
 O 44 (.bin .add (.t 43) (.c (I 1))),
 O 45 (.mksl (K1 10) 112 (.a [(I 0), (I 0), (I 0), (I 0), (I 0), (I 0), (.s []), (.s []), (.l (K1 3) [] true), (.i .u64 0)]) (.t 44) (.t 44)),
 O 11 (.mov (.t 45))] [45, 44, 43, 42]) (
 sq (.reg [
 O 46 (.mov (.t 11)),
 O 47 (.mov (.t 0)),
 O 48 (.copy (K1 10) (.t 46) (.t 47))] [48, 47, 46]) (
 sq (.reg [
 O 49 (.mov (.t 11)),
 O 50 (.mov (.t 0)),
 O 51 (.len false (.t 50)),
 O 52 (.load (K1 10) (.t 3)),
 O 53 (.mov (.t 0)),
 O 54 (.len false (.t 53)),
 O 55 (.mov (.t 9)),
 O 56 (.call 0 243 [(.t 52), (.t 54), (.t 55)]),
 O 57 (.iaddr (K1 10) (.t 49) (.t 51)),
 E (.store (K1 10) (.t 57) (.t 56))] [57, 56, 9, 55, 54, 53, 3, 52, 51, 0, 50, 49]) (
 sq (.reg [
 O 58 (.mov (.t 11)),
 O 4 (.mov (.t 58)),
 O 5 (.mov (.c (I 0)))] [11, 58]) (
 .ret))))))))))⟩
def L676_0 : PC :=
 sq (sq (.reg [
 O 8 (.mov (.t 3)),
 O 9 (.mov (.t 0)),
 O 10 (.len false (.t 9)),
 O 11 (.bin .lss (.t 8) (.t 10))] [10, 9, 8]) (
 .cond (.t 11) (.skip)
 (.exit 0))) (
 sq (.block 1 (
 sq (.reg [
 O 14 (.mov (.t 0)),
 O 15 (.mov (.t 3)),
 O 16 (.iaddr (K1 2) (.t 14) (.t 15)),
 O 17 (.faddr 0 (.t 16)),
 O 18 (.load K0 (.t 17)),
 O 19 (.bin .lss (.t 18) (.c (I 0))),
 O 20 (.mov (.t 19)),
 OG 21 20 false (.mov (.t 0)),
 OG 22 20 false (.mov (.t 3)),
 OG 23 20 false (.iaddr (K1 2) (.t 21) (.t 22)),
 OG 24 20 false (.faddr 0 (.t 23)),
 OG 25 20 false (.load K0 (.t 24)),
 OG 26 20 false (.bin .gtr (.t 25) (.c (I 1000000000000))),
 O 27 (.pick (.t 20) (.c (.b true)) (.t 26)),
 O 28 (.mov (.t 27)),
 OG 29 28 false (.mov (.t 0)),
 OG 30 28 false (.mov (.t 3)),
 OG 31 28 false (.iaddr (K1 2) (.t 29) (.t 30)),
 OG 32 28 false (.faddr 1 (.t 31)),
 OG 33 28 false (.load K0 (.t 32)),
 OG 34 28 false (.bin .lss (.t 33) (.c (I 0))),
 O 35 (.pick (.t 28) (.c (.b true)) (.t 34)),
 O 36 (.mov (.t 35)),
 OG 37 36 false (.mov (.t 0)),
 OG 38 36 false (.mov (.t 3)),
 OG 39 36 false (.iaddr (K1 2) (.t 37) (.t 38)),
 OG 40 36 false (.faddr 1 (.t 39)),
 OG 41 36 false (.load K0 (.t 40)),
 OG 42 36 false (.bin .gtr (.t 41) (.c (I 1000000))),
 O 43 (.pick (.t 36) (.c (.b true)) (.t 42))] [42, 41, 40, 39, 38, 37, 36, 35, 34, 33, 32, 31, 30, 29, 28, 27, 26, 25, 24, 23, 22, 21, 20, 19, 18, 17, 16, 15, 14]) (
 .cond (.t 43) (sq (.reg [
 O 2 (.mov (.c (I 1)))] []) (
 .ret))
 (.skip)))) (
 .reg [
 O 12 (.mov (.t 3)),
 O 13 (.bin .add (.t 12) (.c (I 1))),
 O 3 (.mov (.t 13))] [13, 12]))
def L676_1 : PC :=
 sq (sq (.reg [
 O 44 (.mov (.t 4)),
 O 45 (.mov (.t 0)),
 O 46 (.len false (.t 45)),
 O 47 (.bin .lss (.t 44) (.t 46))] [46, 45, 44]) (
 .cond (.t 47) (.skip)
 (.exit 2))) (
 sq (.block 3 (
 sq (.regD [
 O 50 (.mov (.t 0)),
 O 51 (.mov (.t 4)),
 O 52 (.iaddr (K1 2) (.t 50) (.t 51)),
 O 53 (.faddr 0 (.t 52)),
 O 54 (.load K0 (.t 53)),
 O 55 (.mov (.t 0)),
 O 56 (.mov (.t 4)),
 O 57 (.bin .sub (.t 56) (.c (I 1))),
 O 58 (.iaddr (K1 2) (.t 55) (.t 57)),
 O 59 (.faddr 0 (.t 58)),
 O 60 (.load K0 (.t 59)),
 O 61 (.bin .leq (.t 54) (.t 60))] [0, 0, 3, 7, 15, 0, 0, 64, 224, 480, 992, 2047] [60, 59, 58, 57, 56, 55, 54, 53, 52, 51, 50]) (
 .cond (.t 61) (sq (.reg [
 O 2 (.mov (.c (I 10)))] []) (
 .ret))
 (.skip)))) (
 .reg [
 O 48 (.mov (.t 4)),
 O 49 (.bin .add (.t 48) (.c (I 1))),
 O 4 (.mov (.t 49))] [49, 48]))
def F676 : PF := ⟨1, [.t 2],
 sq (.reg [
 O 2 (.mov (.c (I 0)))] [2]) (
 sq (sq (.reg [
 O 5 (.mov (.t 0)),
 O 6 (.len false (.t 5)),
 O 7 (.bin .gtr (.t 6) (.c (I 6)))] [6, 5]) (
 .cond (.t 7) (sq (.reg [
 O 2 (.mov (.c (I 5)))] []) (
 .ret))
 (.skip))) (
 sq (sq (.reg [
 O 3 (.mov (.c (I 0)))] []) (
 .block 0 (
 .loop [0, 3] L676_0))) (
 sq (sq (.reg [
 O 4 (.mov (.c (I 1)))] []) (
 .block 2 (
 .loop [0, 4] L676_1))) (
 sq (sq (.reg [
 O 62 (.mov (.t 0)),
 O 63 (.len false (.t 62)),
 O 64 (.bin .gtr (.t 63) (.c (I 0))),
 O 65 (.mov (.t 64)),
 OG 66 65 true (.mov (.t 0)),
 OG 67 65 true (.iaddr (K1 2) (.t 66) (.c (I 0))),
 OG 68 65 true (.faddr 0 (.t 67)),
 OG 69 65 true (.load K0 (.t 68)),
 OG 70 65 true (.bin .neq (.t 69) (.c (I 0))),
 O 71 (.pick (.t 65) (.t 70) (.c (.b false)))] [70, 69, 68, 67, 66, 65, 64, 63, 0, 62]) (
 .cond (.t 71) (sq (.reg [
 O 2 (.mov (.c (I 1)))] []) (
 .ret))
 (.skip))) (
 sq (.reg [
 O 2 (.mov (.c (I 0)))] []) (
 .ret))))))⟩
def L679_0 : PC :=
 sq (sq (.reg [
 O 68 (.mov (.t 3)),
 O 69 (.faddr 8 (.t 1)),
 O 70 (.load K0 (.t 69)),
 O 71 (.len false (.t 70)),
 O 72 (.bin .lss (.t 68) (.t 71))] [71, 70, 69, 68]) (
 .cond (.t 72) (.skip)
 (.exit 0))) (
 sq (.block 1 (
 sq (.reg [
 O 75 (.faddr 8 (.t 1)),
 O 76 (.load K0 (.t 75)),
 O 77 (.mov (.t 3)),
 O 78 (.iaddr (K1 3) (.t 76) (.t 77)),
 O 79 (.load (K1 3) (.t 78)),
 O 80 (.call 0 770 [(.t 79)]),
 O 4 (.mov (.t 80))] [80, 79, 78, 77, 76, 75]) (
 sq (.reg [
 O 81 (.mov (.t 4)),
 O 82 (.bin .neq (.t 81) (.c (I 0)))] [81]) (
 .cond (.t 82) (sq (.reg [
 O 83 (.mov (.t 4)),
 O 2 (.mov (.t 83))] [4, 83]) (
 .ret))
 (.skip))))) (
 .reg [
 O 73 (.mov (.t 3)),
 O 74 (.bin .add (.t 73) (.c (I 1))),
 O 3 (.mov (.t 74))] [74, 73]))
def L679_1 : PC :=
 sq (sq (.reg [
 O 87 (.mov (.t 6)),
 O 88 (.mov (.t 5)),
 O 89 (.len false (.t 88)),
 O 90 (.bin .lss (.t 87) (.t 89))] [89, 88, 87]) (
 .cond (.t 90) (.skip)
 (.exit 2))) (
 sq (.block 3 (
 sq (.reg [
 O 93 (.mov (.t 5)),
 O 94 (.mov (.t 6)),
 O 95 (.iaddr (K1 2) (.t 93) (.t 94)),
 O 96 (.faddr 1 (.t 95)),
 O 97 (.load K0 (.t 96)),
 O 98 (.bin .neq (.t 97) (.c (I 0)))] [97, 96, 95, 94, 93]) (
 .cond (.t 98) (sq (.reg [
 O 2 (.mov (.c (I 15)))] []) (
 .ret))
 (.skip)))) (
 .reg [
 O 91 (.mov (.t 6)),
 O 92 (.bin .add (.t 91) (.c (I 1))),
 O 6 (.mov (.t 92))] [92, 91]))
def F679 : PF := ⟨1, [.t 2],
 sq (.reg [
 O 1 (.box (K1 10) (.t 0)),
 O 2 (.mov (.c (I 0)))] [2, 0]) (
 sq (sq (.reg [
 O 7 (.faddr 6 (.t 1)),
 O 8 (.load K0 (.t 7)),
 O 9 (.call 0 607 [(.t 8)]),
 O 10 (.un .not (.t 9))] [9, 8, 7]) (
 .cond (.t 10) (sq (.reg [
 O 2 (.mov (.c (I 4)))] []) (
 .ret))
 (.skip))) (
 sq (sq (.reg [
 O 11 (.faddr 7 (.t 1)),
 O 12 (.load K0 (.t 11)),
 O 13 (.call 0 685 [(.t 12), (.c (I 64)), (.c (.i .u8 32))]),
 O 14 (.un .not (.t 13)),
 O 15 (.mov (.t 14)),
 OG 16 15 false (.faddr 1 (.t 1)),
 OG 17 15 false (.load K0 (.t 16)),
 OG 18 15 false (.call 0 544 [(.t 17)]),
 OG 19 15 false (.un .not (.t 18)),
 O 20 (.pick (.t 15) (.c (.b true)) (.t 19)),
 O 21 (.mov (.t 20)),
 OG 22 21 false (.faddr 2 (.t 1)),
 OG 23 21 false (.load K0 (.t 22)),
 OG 24 21 false (.call 0 544 [(.t 23)]),
 OG 25 21 false (.un .not (.t 24)),
 O 26 (.pick (.t 21) (.c (.b true)) (.t 25)),
 O 27 (.mov (.t 26)),
 OG 28 27 false (.faddr 3 (.t 1)),
 OG 29 27 false (.load K0 (.t 28)),
 OG 30 27 false (.bin .lss (.t 29) (.c (I 1))),
 O 31 (.pick (.t 27) (.c (.b true)) (.t 30)),
 O 32 (.mov (.t 31)),
 OG 33 32 false (.faddr 3 (.t 1)),
 OG 34 32 false (.load K0 (.t 33)),
 OG 35 32 false (.bin .gtr (.t 34) (.c (I 14))),
 O 36 (.pick (.t 32) (.c (.b true)) (.t 35)),
 O 37 (.mov (.t 36)),
 OG 38 37 false (.faddr 4 (.t 1)),
 OG 39 37 false (.load K0 (.t 38)),
 OG 40 37 false (.bin .lss (.t 39) (.c (I 0))),
 O 41 (.pick (.t 37) (.c (.b true)) (.t 40)),
 O 42 (.mov (.t 41)),
 OG 43 42 false (.faddr 4 (.t 1)),
 OG 44 42 false (.load K0 (.t 43)),
 OG 45 42 false (.bin .gtr (.t 44) (.c (I 3))),
 O 46 (.pick (.t 42) (.c (.b true)) (.t 45)),
 O 47 (.mov (.t 46)),
 OG 48 47 false (.faddr 5 (.t 1)),
 OG 49 47 false (.load K0 (.t 48)),
 OG 50 47 false (.bin .neq (.t 49) (.c (I 0))),
 OG 51 47 false (.mov (.t 50)),
 OG 52 51 true (.faddr 5 (.t 1)),
 OG 53 51 true (.load K0 (.t 52)),
 OG 54 51 true (.call 0 544 [(.t 53)]),
 OG 55 51 true (.un .not (.t 54)),
 OG 56 47 false (.pick (.t 51) (.t 55) (.c (.b false))),
 O 57 (.pick (.t 47) (.c (.b true)) (.t 56))] [56, 55, 54, 53, 52, 51, 50, 49, 48, 47, 46, 45, 44, 43, 42, 41, 40, 39, 38, 37, 36, 35, 34, 33, 32, 31, 30, 29, 28, 27, 26, 25, 24, 23, 22, 21, 20, 19, 18, 17, 16, 15, 14, 13, 12, 11]) (
 .cond (.t 57) (sq (.reg [
 O 2 (.mov (.c (I 1)))] []) (
 .ret))
 (.skip))) (
 sq (sq (.reg [
 O 58 (.faddr 8 (.t 1)),
 O 59 (.load K0 (.t 58)),
 O 60 (.len false (.t 59)),
 O 61 (.bin .lss (.t 60) (.c (I 2))),
 O 62 (.mov (.t 61)),
 OG 63 62 false (.faddr 8 (.t 1)),
 OG 64 62 false (.load K0 (.t 63)),
 OG 65 62 false (.len false (.t 64)),
 OG 66 62 false (.bin .gtr (.t 65) (.c (I 12))),
 O 67 (.pick (.t 62) (.c (.b true)) (.t 66))] [66, 65, 64, 63, 62, 61, 60, 59, 58]) (
 .cond (.t 67) (sq (.reg [
 O 2 (.mov (.c (I 5)))] []) (
 .ret))
 (.skip))) (
 sq (sq (.reg [
 O 3 (.mov (.c (I 0)))] []) (
 .block 0 (
 .loop [1, 3] L679_0))) (
 sq (.reg [
 O 84 (.faddr 8 (.t 1)),
 O 85 (.load K0 (.t 84)),
 O 86 (.call 0 771 [(.t 85)]),
 O 5 (.mov (.t 86))] [86, 85, 1, 84]) (
 sq (sq (.reg [
 O 6 (.mov (.c (I 0)))] []) (
 .block 2 (
 .loop [5, 6] L679_1))) (
 sq (.reg [
 O 2 (.mov (.c (I 0)))] []) (
 .ret))))))))⟩
def F680 : PF := ⟨2, [.t 4],
 sq (.reg [
 O 4 (.mov (.c (.i .u64 0)))] [4]) (
 sq (.reg [
 O 5 (.mov (.t 0)),
 O 6 (.call 0 774 [(.t 5)]),
 O 7 (.call 0 773 [(.t 6)]),
 O 8 (.mov (.t 1)),
 O 9 (.call 0 772 [(.t 7), (.t 8)]),
 O 4 (.mov (.t 9))] [9, 1, 8, 7, 6, 0, 5]) (
 .ret))⟩
def L681_0 : PC :=
 sq (sq (.reg [
 O 6 (.mov (.t 4)),
 O 7 (.faddr 8 (.t 1)),
 O 8 (.load K0 (.t 7)),
 O 9 (.len false (.t 8)),
 O 10 (.bin .lss (.t 6) (.t 9))] [9, 8, 7, 6]) (
 .cond (.t 10) (.skip)
 (.exit 0))) (
 sq (.block 1 (
 sq (.reg [
 O 13 (.faddr 8 (.t 1)),
 O 14 (.load K0 (.t 13)),
 O 15 (.mov (.t 4)),
 O 16 (.iaddr (K1 3) (.t 14) (.t 15)),
 O 17 (.load (K1 3) (.t 16)),
 O 5 (.alloc (K1 3) (.a [(I 0), (I 0), (.s [])])),
 E (.store (K1 3) (.t 5) (.t 17))] [17, 16, 15, 14, 13]) (
 .regD [
 O 18 (.mov (.t 3)),
 O 19 (.faddr 0 (.t 5)),
 O 20 (.load K0 (.t 19)),
 O 21 (.call 0 776 [(.t 20)]),
 O 22 (.faddr 1 (.t 5)),
 O 23 (.load K0 (.t 22)),
 O 24 (.call 0 776 [(.t 23)]),
 O 25 (.faddr 2 (.t 5)),
 O 26 (.load K0 (.t 25)),
 O 27 (.bsl K0 (.s []) 3 [(0, (.t 21)), (1, (.t 24)), (2, (.t 26))]),
 O 28 (.call 0 775 [(.t 27)]),
 O 29 (.bsl K0 (.s []) 1 [(0, (.t 28))]),
 O 30 (.app K0 16 (.t 18) (.t 29)),
 O 3 (.mov (.t 30))] [0, 0, 2, 6, 0, 16, 62, 0, 128, 510, 1022, 2046, 4095, 8191] [30, 29, 28, 27, 26, 25, 24, 23, 22, 21, 20, 5, 19, 18]))) (
 .reg [
 O 11 (.mov (.t 4)),
 O 12 (.bin .add (.t 11) (.c (I 1))),
 O 4 (.mov (.t 12))] [12, 11]))
def F681 : PF := ⟨1, [.t 2],
 sq (.reg [
 O 1 (.box (K1 10) (.t 0)),
 O 2 (.mov (.c (.s [])))] [2, 0]) (
 sq (.reg [
 O 3 (.mov (.c (.l K0 [] true)))] []) (
 sq (sq (.reg [
 O 4 (.mov (.c (I 0)))] []) (
 .block 0 (
 .loop [1, 3, 4] L681_0))) (
 sq (.regD [
 O 31 (.faddr 0 (.t 1)),
 O 32 (.load K0 (.t 31)),
 O 33 (.call 0 776 [(.t 32)]),
 O 34 (.faddr 1 (.t 1)),
 O 35 (.load K0 (.t 34)),
 O 36 (.call 0 776 [(.t 35)]),
 O 37 (.faddr 2 (.t 1)),
 O 38 (.load K0 (.t 37)),
 O 39 (.call 0 776 [(.t 38)]),
 O 40 (.faddr 3 (.t 1)),
 O 41 (.load K0 (.t 40)),
 O 42 (.call 0 776 [(.t 41)]),
 O 43 (.faddr 4 (.t 1)),
 O 44 (.load K0 (.t 43)),
 O 45 (.call 0 776 [(.t 44)]),
 O 46 (.faddr 5 (.t 1)),
 O 47 (.load K0 (.t 46)),
 O 48 (.call 0 776 [(.t 47)]),
 O 49 (.faddr 6 (.t 1)),
 O 50 (.load K0 (.t 49)),
 O 51 (.faddr 7 (.t 1)),
 O 52 (.load K0 (.t 51)),
 O 53 (.mov (.t 3)),
 O 54 (.call 0 775 [(.t 53)]),
 O 55 (.bsl K0 (.s []) 9 [(0, (.t 33)), (1, (.t 36)), (2, (.t 39)), (3, (.t 42)), (4, (.t 45)), (5, (.t 48)), (6, (.t 50)), (7, (.t 52)), (8, (.t 54))]),
 O 56 (.call 0 775 [(.t 55)]),
 O 2 (.mov (.t 56))] [0, 1, 3, 0, 8, 31, 0, 64, 255, 0, 512, 2047, 0, 4096, 16383, 0, 32768, 131071, 0, 262144, 0, 1048576, 0, 4456447, 16777215, 33554431, 67108863] [56, 55, 54, 3, 53, 52, 51, 50, 49, 48, 47, 46, 45, 44, 43, 42, 41, 40, 39, 38, 37, 36, 35, 34, 33, 32, 1, 31]) (
 .ret))))⟩
def L682_0 : PC :=
 sq (sq (.reg [
 O 6 (.mov (.t 5)),
 O 7 (.mov (.t 0)),
 O 8 (.len false (.t 7)),
 O 9 (.bin .lss (.t 6) (.t 8))] [8, 7, 6]) (
 .cond (.t 9) (.skip)
 (.exit 0))) (
 sq (.block 1 (
 sq (.reg [
 O 12 (.mov (.t 0)),
 O 13 (.mov (.t 5)),
 O 14 (.iaddr (K1 4) (.t 12) (.t 13)),
 O 15 (.faddr 1 (.t 14)),
 O 16 (.load K0 (.t 15)),
 O 17 (.mov (.t 1)),
 O 18 (.bin .eql (.t 16) (.t 17))] [17, 16, 15, 14, 13, 12]) (
 .cond (.t 18) (sq (.reg [
 O 4 (.mov (.c (.b true)))] []) (
 .ret))
 (.skip)))) (
 .reg [
 O 10 (.mov (.t 5)),
 O 11 (.bin .add (.t 10) (.c (I 1))),
 O 5 (.mov (.t 11))] [11, 10]))
def F682 : PF := ⟨2, [.t 4],
 sq (.reg [
 O 4 (.mov (.c (.b false)))] [4]) (
 sq (sq (.reg [
 O 5 (.mov (.c (I 0)))] []) (
 .block 0 (
 .loop [0, 1, 5] L682_0))) (
 sq (.reg [
 O 4 (.mov (.c (.b false)))] []) (
 .ret)))⟩
def L683_0 : PC :=
 sq (sq (.reg [
 O 7 (.mov (.t 6)),
 O 8 (.faddr 18 (.t 2)),
 O 9 (.load K0 (.t 8)),
 O 10 (.len false (.t 9)),
 O 11 (.bin .lss (.t 7) (.t 10))] [10, 9, 8, 7]) (
 .cond (.t 11) (.skip)
 (.exit 0))) (
 sq (.block 1 (
 sq (.reg [
 O 14 (.faddr 18 (.t 2)),
 O 15 (.load K0 (.t 14)),
 O 16 (.mov (.t 6)),
 O 17 (.iaddr (K1 7) (.t 15) (.t 16)),
 O 18 (.faddr 0 (.t 17)),
 O 19 (.load K0 (.t 18)),
 O 20 (.mov (.t 1)),
 O 21 (.bin .eql (.t 19) (.t 20))] [20, 19, 18, 17, 16, 15, 14]) (
 .cond (.t 21) (sq (.reg [
 O 22 (.faddr 18 (.t 2)),
 O 23 (.load K0 (.t 22)),
 O 24 (.mov (.t 6)),
 O 25 (.iaddr (K1 7) (.t 23) (.t 24)),
 O 26 (.load (K1 7) (.t 25)),
 E (.store (K1 7) (.t 4) (.t 26)),
 O 5 (.mov (.c (.b true)))] [26, 25, 6, 24, 23, 2, 22]) (
 .ret))
 (.skip)))) (
 .reg [
 O 12 (.mov (.t 6)),
 O 13 (.bin .add (.t 12) (.c (I 1))),
 O 6 (.mov (.t 13))] [13, 12]))
def F683 : PF := ⟨2, [.c 4 (K1 7), .t 5],
 sq (.reg [
 O 2 (.box (K1 22) (.t 0)),
 O 4 (.alloc (K1 7) (.a [(I 0), (I 0), (I 0), (I 0), (.s []), (.s []), (.s [])])),
 O 5 (.mov (.c (.b false)))] [5, 0]) (
 sq (sq (.reg [
 O 6 (.mov (.c (I 0)))] []) (
 .block 0 (
 .loop [1, 2, 4, 6] L683_0))) (
 sq (.reg [
 O 27 (.agg [(I 0), (I 0), (I 0), (I 0), (.s []), (.s []), (.s [])] []),
 E (.store (K1 7) (.t 4) (.t 27)),
 O 5 (.mov (.c (.b false)))] [27]) (
 .ret)))⟩
def F684 : PF := ⟨3, [.t 6],
 sq (.reg [
 O 3 (.box (K1 22) (.t 0)),
 O 6 (.mov (.c (.b false)))] [6, 0]) (
 sq (.reg [
 O 10 (.load (K1 22) (.t 3)),
 O 11 (.mov (.t 1)),
 O 12 (.call 0 683 [(.t 10), (.t 11)]),
 O 9 (.mov (.t 12)),
 O 13 (.ext (.t 9) 0),
 O 14 (.ext (.t 9) 1),
 O 7 (.alloc (K1 7) (.a [(I 0), (I 0), (I 0), (I 0), (.s []), (.s []), (.s [])])),
 E (.store (K1 7) (.t 7) (.t 13)),
 O 8 (.mov (.t 14))] [14, 13, 9, 12, 1, 11, 3, 10]) (
 sq (.reg [
 O 15 (.mov (.t 8)),
 O 16 (.mov (.t 15)),
 OG 17 16 true (.faddr 1 (.t 7)),
 OG 18 16 true (.load K0 (.t 17)),
 OG 19 16 true (.mov (.t 2)),
 OG 20 16 true (.bin .leq (.t 18) (.t 19)),
 O 21 (.pick (.t 16) (.t 20) (.c (.b false))),
 O 22 (.mov (.t 21)),
 OG 23 22 true (.faddr 2 (.t 7)),
 OG 24 22 true (.load K0 (.t 23)),
 OG 25 22 true (.bin .eql (.t 24) (.c (I 0))),
 OG 26 22 true (.mov (.t 25)),
 OG 27 26 false (.faddr 2 (.t 7)),
 OG 28 26 false (.load K0 (.t 27)),
 OG 29 26 false (.mov (.t 2)),
 OG 30 26 false (.bin .gtr (.t 28) (.t 29)),
 OG 31 22 true (.pick (.t 26) (.c (.b true)) (.t 30)),
 O 32 (.pick (.t 22) (.t 31) (.c (.b false))),
 O 6 (.mov (.t 32))] [32, 31, 30, 29, 28, 27, 26, 25, 24, 23, 22, 21, 20, 2, 19, 18, 7, 17, 16, 8, 15]) (
 .ret)))⟩
def L685_0 : PC :=
 sq (sq (.reg [
 O 12 (.mov (.t 7)),
 O 13 (.mov (.t 0)),
 O 14 (.len true (.t 13)),
 O 15 (.bin .lss (.t 12) (.t 14))] [14, 13, 12]) (
 .cond (.t 15) (.skip)
 (.exit 0))) (
 sq (.block 1 (
 sq (.reg [
 O 18 (.mov (.t 0)),
 O 19 (.mov (.t 7)),
 O 20 (.idxS (.t 18) (.t 19)),
 O 21 (.mov (.t 2)),
 O 22 (.bin .lss (.t 20) (.t 21)),
 O 23 (.mov (.t 22)),
 OG 24 23 false (.mov (.t 0)),
 OG 25 23 false (.mov (.t 7)),
 OG 26 23 false (.idxS (.t 24) (.t 25)),
 OG 27 23 false (.bin .gtr (.t 26) (.c (.i .u8 126))),
 O 28 (.pick (.t 23) (.c (.b true)) (.t 27))] [27, 26, 25, 24, 23, 22, 21, 20, 19, 18]) (
 .cond (.t 28) (sq (.reg [
 O 6 (.mov (.c (.b false)))] []) (
 .ret))
 (.skip)))) (
 .reg [
 O 16 (.mov (.t 7)),
 O 17 (.bin .add (.t 16) (.c (I 1))),
 O 7 (.mov (.t 17))] [17, 16]))
def F685 : PF := ⟨3, [.t 6],
 sq (.reg [
 O 6 (.mov (.c (.b false)))] [6]) (
 sq (sq (.reg [
 O 8 (.mov (.t 0)),
 O 9 (.len true (.t 8)),
 O 10 (.mov (.t 1)),
 O 11 (.bin .gtr (.t 9) (.t 10))] [1, 10, 9, 8]) (
 .cond (.t 11) (sq (.reg [
 O 6 (.mov (.c (.b false)))] []) (
 .ret))
 (.skip))) (
 sq (sq (.reg [
 O 7 (.mov (.c (I 0)))] []) (
 .block 0 (
 .loop [0, 2, 7] L685_0))) (
 sq (.reg [
 O 6 (.mov (.c (.b true)))] []) (
 .ret))))⟩
def L686_0 : PC :=
 sq (.reg [
 O 9 (.bin .lss (.t 8) (.t 7))] []) (
 sq (.cond (.t 9) (.skip)
 (.exit 0)) (
 sq (.block 1 (
 sq (.reg [
 O 10 (.mov (.t 8)),
 O 5 (.mov (.t 10))] [10]) (
 sq (.regD [
 O 11 (.load (K1 2) (.t 3)),
 O 12 (.mov (.t 0)),
 O 13 (.mov (.t 5)),
 O 14 (.iaddr (K1 2) (.t 12) (.t 13)),
 O 15 (.load (K1 2) (.t 14)),
 O 16 (.eqv false [1, 1] (.t 11) (.t 15))] [0, 0, 0, 6, 14, 31] [15, 14, 13, 12, 11]) (
 .cond (.t 16) (sq (.reg [
 O 17 (.mov (.t 5)),
 O 4 (.mov (.t 17))] [5, 17]) (
 .ret))
 (.skip))))) (
 .reg [
 O 18 (.bin .add (.t 8) (.c (I 1))),
 O 8 (.mov (.t 18))] [18])))
def F686 : PF := ⟨2, [.t 4],
 sq (.reg [
 O 3 (.box (K1 2) (.t 1)),
 O 4 (.mov (.c (I 0)))] [4, 1]) (
 sq (sq (.reg [
 O 6 (.mov (.t 0)),
 O 7 (.len false (.t 6)),
 O 8 (.mov (.c (I 0)))] [6]) (
 .block 0 (
 .loop [0, 3, 7, 8] L686_0))) (
 sq (.reg [
 O 4 (.mov (.c (I (-1))))] []) (
 .ret)))⟩
def F687 : PF := ⟨1, [.t 2],
 sq (.reg [
 O 1 (.box (K1 70) (.t 0)),
 O 2 (.mov (.c (.l (K1 10) [] true)))] [2, 0]) (
 sq (.reg [
 O 3 (.faddr 0 (.t 1)),
 O 4 (.faddr 27 (.t 3)),
 O 5 (.load K0 (.t 4)),
 O 6 (.faddr 0 (.t 1)),
 O 7 (.faddr 0 (.t 6)),
 O 8 (.load K0 (.t 7)),
 O 9 (.call 0 778 [(.t 5), (.t 8)]),
 O 10 (.mkf 779 [(.t 1)]),
 O 11 (.call 2 777 [(.t 9), (.t 10)]),
 O 2 (.mov (.t 11))] [11, 10, 9, 8, 7, 6, 5, 4, 1, 3]) (
 .ret))⟩
def F688 : PF := ⟨2, [.t 4],
 sq (.reg [
 O 2 (.box (K1 70) (.t 0)),
 O 4 (.mov (.c (.s [])))] [4, 0]) (
 sq (.reg [
 O 5 (.faddr 0 (.t 2)),
 O 6 (.faddr 0 (.t 5)),
 O 7 (.load K0 (.t 6)),
 O 8 (.faddr 42 (.t 2)),
 O 9 (.load (K1 2) (.t 8)),
 O 10 (.mov (.t 1)),
 O 11 (.call 0 781 [(.t 7), (.t 9), (.t 10)]),
 O 4 (.mov (.t 11))] [11, 1, 10, 9, 8, 7, 6, 2, 5]) (
 .ret))⟩
def F689 : PF := ⟨6, [.c 12 (K1 10)],
 sq (.reg [
 O 6 (.box (K1 70) (.t 0)),
 O 7 (.box (K1 10) (.t 1)),
 O 12 (.alloc (K1 10) (.a [(I 0), (I 0), (I 0), (I 0), (I 0), (I 0), (.s []), (.s []), (.l (K1 3) [] true), (.i .u64 0)]))] [1, 0]) (
 sq (.regD [
 O 13 (.faddr 0 (.t 6)),
 O 14 (.faddr 0 (.t 13)),
 O 15 (.load K0 (.t 14)),
 O 16 (.faddr 0 (.t 6)),
 O 17 (.faddr 0 (.t 16)),
 O 18 (.load K0 (.t 17)),
 O 19 (.faddr 1 (.t 7)),
 E (.store K0 (.t 19) (.t 15)),
 O 20 (.faddr 2 (.t 7)),
 E (.store K0 (.t 20) (.t 18))] [0, 1, 3, 0, 8, 24, 7, 71, 255, 511] [20, 19, 18, 17, 16, 15, 14, 6, 13]) (
 sq (.reg [
 O 21 (.mov (.t 2)),
 O 22 (.mov (.t 4)),
 O 23 (.mov (.t 5)),
 O 24 (.agg [(I 0), (I 0), (.s [])] [(0, K0, (.t 21)), (1, K0, (.t 22)), (2, K0, (.t 23))]),
 O 25 (.mov (.t 3)),
 O 26 (.mov (.t 4)),
 O 27 (.un .neg (.t 26)),
 O 28 (.mov (.t 5)),
 O 29 (.agg [(I 0), (I 0), (.s [])] [(0, K0, (.t 25)), (1, K0, (.t 27)), (2, K0, (.t 28))]),
 O 30 (.bsl (K1 3) (.a [(I 0), (I 0), (.s [])]) 2 [(0, (.t 24)), (1, (.t 29))]),
 O 31 (.faddr 8 (.t 7)),
 E (.store K0 (.t 31) (.t 30))] [31, 30, 29, 28, 27, 26, 3, 25, 24, 5, 23, 4, 22, 2, 21]) (
 sq (.reg [
 O 32 (.load (K1 10) (.t 7)),
 E (.store (K1 10) (.t 12) (.t 32))] [7, 32]) (
 .ret))))⟩
def F690 : PF := ⟨2, [.t 4],
 sq (.reg [
 O 2 (.box (K1 70) (.t 0)),
 O 4 (.mov (.c (.s [])))] [4, 0]) (
 sq (.reg [
 O 9 (.faddr 0 (.t 2)),
 O 10 (.faddr 3 (.t 9)),
 O 11 (.load (K1 22) (.t 10)),
 O 12 (.mov (.t 1)),
 O 13 (.call 0 12 [(.t 11), (.t 12)]),
 O 8 (.mov (.t 13)),
 O 14 (.ext (.t 8) 0),
 O 15 (.ext (.t 8) 1),
 O 5 (.alloc (K1 7) (.a [(I 0), (I 0), (I 0), (I 0), (.s []), (.s []), (.s [])])),
 E (.store (K1 7) (.t 5) (.t 14)),
 O 6 (.mov (.t 15))] [6, 15, 14, 8, 13, 1, 12, 11, 10, 9]) (
 sq (.reg [
 O 16 (.faddr 0 (.t 2)),
 O 17 (.faddr 3 (.t 16)),
 O 18 (.faddr 17 (.t 17)),
 O 19 (.load K0 (.t 18)),
 O 20 (.faddr 5 (.t 5)),
 O 21 (.load K0 (.t 20)),
 O 22 (.call 0 274 [(.t 19), (.t 21)]),
 O 7 (.mov (.t 22))] [22, 21, 5, 20, 19, 18, 17, 2, 16]) (
 sq (sq (.reg [
 O 23 (.mov (.t 7)),
 O 24 (.len false (.t 23)),
 O 25 (.bin .eql (.t 24) (.c (I 0)))] [24, 23]) (
 .cond (.t 25) (sq (.reg [
 O 4 (.mov (.c (.s [])))] []) (
 .ret))
 (.skip))) (
 sq (.reg [
 O 26 (.mov (.t 7)),
 O 27 (.iaddr (K1 19) (.t 26) (.c (I 0))),
 O 28 (.faddr 1 (.t 27)),
 O 29 (.load K0 (.t 28)),
 O 4 (.mov (.t 29))] [29, 28, 27, 7, 26]) (
 .ret)))))⟩
def L695_0 : PC :=
 sq (.reg [
 O 12 (.bin .lss (.t 11) (.t 10))] []) (
 sq (.cond (.t 12) (.skip)
 (.exit 0)) (
 sq (.block 1 (
 sq (.reg [
 O 13 (.iaddr (K1 7) (.t 9) (.t 11)),
 O 14 (.load (K1 7) (.t 13)),
 O 5 (.alloc (K1 7) (.a [(I 0), (I 0), (I 0), (I 0), (.s []), (.s []), (.s [])])),
 E (.store (K1 7) (.t 5) (.t 14))] [14, 13]) (
 sq (.reg [
 O 15 (.load (K1 70) (.t 1)),
 O 16 (.faddr 0 (.t 5)),
 O 17 (.load K0 (.t 16)),
 O 18 (.call 0 780 [(.t 15), (.t 17)]),
 O 19 (.mov (.t 18)),
 OG 20 19 true (.faddr 0 (.t 1)),
 OG 21 19 true (.faddr 3 (.t 20)),
 OG 22 19 true (.load (K1 22) (.t 21)),
 OG 23 19 true (.faddr 0 (.t 5)),
 OG 24 19 true (.load K0 (.t 23)),
 OG 25 19 true (.faddr 0 (.t 1)),
 OG 26 19 true (.faddr 0 (.t 25)),
 OG 27 19 true (.load K0 (.t 26)),
 OG 28 19 true (.call 0 39 [(.t 22), (.t 24), (.t 27)]),
 O 29 (.pick (.t 19) (.t 28) (.c (.b false)))] [28, 27, 26, 25, 24, 23, 22, 21, 20, 19, 18, 17, 16, 15]) (
 .cond (.t 29) (.reg [
 O 30 (.mov (.t 3)),
 O 31 (.load (K1 7) (.t 5)),
 O 32 (.bsl (K1 7) (.a [(I 0), (I 0), (I 0), (I 0), (.s []), (.s []), (.s [])]) 1 [(0, (.t 31))]),
 O 33 (.app (K1 7) 80 (.t 30) (.t 32)),
 O 3 (.mov (.t 33))] [33, 32, 5, 31, 30])
 (.skip))))) (
 .reg [
 O 34 (.bin .add (.t 11) (.c (I 1))),
 O 11 (.mov (.t 34))] [34])))
def F695 : PF := ⟨1, [.t 2],
 sq (.reg [
 O 1 (.box (K1 70) (.t 0)),
 O 2 (.mov (.c (.l (K1 7) [] true)))] [2, 0]) (
 sq (.reg [
 O 3 (.mov (.c (.l (K1 7) [] true)))] []) (
 sq (sq (.reg [
 O 6 (.faddr 0 (.t 1)),
 O 7 (.faddr 3 (.t 6)),
 O 8 (.faddr 18 (.t 7)),
 O 9 (.load K0 (.t 8)),
 O 10 (.len false (.t 9)),
 O 11 (.mov (.c (I 0)))] [8, 7, 6]) (
 .block 0 (
 .loop [1, 3, 9, 10, 11] L695_0))) (
 sq (.reg [
 O 35 (.mov (.t 3)),
 O 2 (.mov (.t 35))] [3, 35]) (
 .ret))))⟩
def F698 : PF := ⟨2, [.t 4, .t 5],
 sq (.reg [
 O 2 (.box (K1 70) (.t 0)),
 O 4 (.mov (.c (.l (K1 10) [] true))),
 O 5 (.mov (.c (.l (K1 11) [] true)))] [5, 4, 0]) (
 sq (.reg [
 O 10 (.faddr 44 (.t 2)),
 O 11 (.load (K1 22) (.t 10)),
 O 12 (.faddr 0 (.t 2)),
 O 13 (.faddr 25 (.t 12)),
 O 14 (.load K0 (.t 13)),
 O 15 (.mov (.t 1)),
 O 16 (.faddr 69 (.t 2)),
 O 17 (.load K0 (.t 16)),
 O 18 (.bin .sub (.t 17) (.c (I 1))),
 O 19 (.faddr 0 (.t 2)),
 O 20 (.faddr 0 (.t 19)),
 O 21 (.load K0 (.t 20)),
 O 22 (.call 0 788 [(.t 11), (.t 14), (.t 15), (.t 18), (.t 21)]),
 O 9 (.mov (.t 22)),
 O 23 (.ext (.t 9) 0),
 O 24 (.ext (.t 9) 1),
 O 25 (.ext (.t 9) 2),
 O 6 (.alloc (K1 22) (.a [(.l (K1 2) [] true), (.l (K1 3) [] true), (.l (K1 4) [] true), (I 0), (I 0), (I 0), (I 0), (I 0), (I 0), (I 0), (I 0), (I 0), (I 0), (I 0), (I 0), (I 0), (I 0), (.l (K1 19) [] true), (.l (K1 7) [] true), (.l (K1 10) [] true), (.l (K1 6) [] true), (.l (K1 7) [] true)])),
 E (.store (K1 22) (.t 6) (.t 23)),
 O 7 (.mov (.t 24)),
 O 8 (.mov (.t 25))] [25, 24, 23, 9, 22, 21, 20, 19, 18, 17, 16, 1, 15, 14, 13, 12, 11, 10]) (
 sq (sq (.reg [
 O 26 (.mov (.t 8)),
 O 27 (.bin .neq (.t 26) (.c (I 0)))] [8, 26]) (
 .cond (.t 27) (sq (.reg [
 O 4 (.mov (.c (.l (K1 10) [] true))),
 O 5 (.mov (.c (.l (K1 11) [] true)))] []) (
 .ret))
 (.skip))) (
 sq (.regD [
 O 28 (.faddr 19 (.t 6)),
 O 29 (.load K0 (.t 28)),
 O 30 (.faddr 44 (.t 2)),
 O 31 (.faddr 19 (.t 30)),
 O 32 (.load K0 (.t 31)),
 O 33 (.len false (.t 32)),
 O 34 (.sl (K1 10) (.t 29) (some (.t 33)) none none),
 O 35 (.mov (.t 7)),
 O 36 (.faddr 0 (.t 2)),
 O 37 (.faddr 25 (.t 36)),
 O 38 (.load K0 (.t 37)),
 O 39 (.len false (.t 38)),
 O 40 (.sl (K1 11) (.t 35) (some (.t 39)) none none),
 O 4 (.mov (.t 34)),
 O 5 (.mov (.t 40))] [0, 1, 0, 4, 12, 28, 63, 0, 0, 256, 768, 1792, 3968, 127, 16383] [40, 39, 38, 37, 36, 7, 35, 34, 33, 32, 31, 2, 30, 29, 6, 28]) (
 .ret))))⟩
def F702 : PF := ⟨5, [.t 10, .t 11],
 sq (.reg [
 O 9 (.box (K1 3) (.t 4)),
 O 10 (.mov (.c (.l (K1 10) [] true))),
 O 11 (.mov (.c (I 0)))] [11, 10, 4]) (
 sq (.reg [
 O 16 (.mov (.t 0)),
 O 17 (.mov (.t 1)),
 O 18 (.call 0 790 [(.t 16), (.t 17)]),
 O 12 (.mov (.t 18))] [18, 1, 17, 16]) (
 sq (.block 0 (
 sq (.reg [
 O 20 (.mov (.t 12)),
 O 21 (.bin .lss (.t 20) (.c (I 0))),
 O 19 (.mov (.t 21))] [21, 20]) (
 .cond (.t 19) (sq (.reg [
 O 10 (.mov (.c (.l (K1 10) [] true))),
 O 11 (.mov (.c (I 11)))] []) (
 .ret))
 (sq (.reg [
 O 23 (.mov (.t 0)),
 O 24 (.mov (.t 12)),
 O 25 (.iaddr (K1 10) (.t 23) (.t 24)),
 O 26 (.faddr 4 (.t 25)),
 O 27 (.load K0 (.t 26)),
 O 28 (.mov (.t 2)),
 O 29 (.bin .gtr (.t 27) (.t 28)),
 O 22 (.mov (.t 29))] [29, 2, 28, 27, 26, 25, 24, 23]) (
 .cond (.t 22) (sq (.reg [
 O 10 (.mov (.c (.l (K1 10) [] true))),
 O 11 (.mov (.c (I 17)))] []) (
 .ret))
 (.skip)))))) (
 sq (.reg [
 O 30 (.mov (.t 0)),
 O 31 (.call 1 148 [(.t 30)]),
 O 13 (.mov (.t 31))] [31, 0, 30]) (
 sq (sq (.reg [
 O 32 (.mov (.t 3)),
 O 33 (.un .not (.t 32)),
 O 34 (.mov (.t 33)),
 OG 35 34 true (.mov (.t 13)),
 OG 36 34 true (.mov (.t 12)),
 OG 37 34 true (.iaddr (K1 10) (.t 35) (.t 36)),
 OG 38 34 true (.faddr 8 (.t 37)),
 OG 39 34 true (.load K0 (.t 38)),
 OG 40 34 true (.bin .lss (.t 39) (.c (I 2))),
 O 41 (.pick (.t 34) (.t 40) (.c (.b false)))] [40, 39, 38, 37, 36, 35, 34, 33, 3, 32]) (
 .cond (.t 41) (sq (.reg [
 O 42 (.mov (.t 13)),
 O 43 (.mov (.t 12)),
 O 44 (.iaddr (K1 10) (.t 42) (.t 43)),
 O 45 (.faddr 8 (.t 44)),
 O 46 (.load K0 (.t 45)),
 O 47 (.bin .add (.t 46) (.c (I 1))),
 O 48 (.iaddr (K1 10) (.t 42) (.t 43)),
 O 49 (.faddr 8 (.t 48)),
 E (.store K0 (.t 49) (.t 47))] [49, 48, 47, 46, 45, 44, 12, 43, 42]) (
 sq (.reg [
 O 50 (.mov (.t 13)),
 O 10 (.mov (.t 50)),
 O 11 (.mov (.c (I 0)))] [13, 50]) (
 .ret)))
 (.skip))) (
 sq (.regD [
 O 52 (.mov (.t 13)),
 O 53 (.mov (.t 12)),
 O 54 (.iaddr (K1 10) (.t 52) (.t 53)),
 O 55 (.load (K1 10) (.t 54)),
 O 56 (.load (K1 3) (.t 9)),
 O 57 (.call 0 791 [(.t 55), (.t 56)]),
 O 51 (.mov (.t 57)),
 O 58 (.ext (.t 51) 0),
 O 59 (.ext (.t 51) 1),
 O 14 (.mov (.t 58)),
 O 15 (.mov (.t 59))] [0, 0, 3, 7, 0, 31, 63, 127, 127, 255, 1023] [59, 58, 51, 57, 9, 56, 55, 54, 53, 52]) (
 sq (sq (.reg [
 O 60 (.mov (.t 15)),
 O 61 (.bin .neq (.t 60) (.c (I 0)))] [15, 60]) (
 .cond (.t 61) (sq (.reg [
 O 62 (.mov (.t 13)),
 O 63 (.mov (.t 12)),
 O 64 (.mov (.t 12)),
 O 65 (.bin .add (.t 64) (.c (I 1))),
 O 66 (.call 2 792 [(.t 62), (.t 63), (.t 65)]),
 O 10 (.mov (.t 66)),
 O 11 (.mov (.c (I 0)))] [66, 65, 64, 12, 63, 13, 62]) (
 .ret))
 (.skip))) (
 sq (.reg [
 O 67 (.mov (.t 13)),
 O 68 (.mov (.t 12)),
 O 69 (.mov (.t 13)),
 O 70 (.mov (.t 12)),
 O 71 (.mov (.t 14)),
 O 72 (.iaddr (K1 10) (.t 67) (.t 68)),
 O 73 (.faddr 8 (.t 72)),
 E (.store K0 (.t 73) (.c (I 0))),
 O 74 (.iaddr (K1 10) (.t 69) (.t 70)),
 O 75 (.faddr 4 (.t 74)),
 E (.store K0 (.t 75) (.t 71))] [75, 74, 73, 72, 14, 71, 70, 69, 12, 68, 67]) (
 sq (.reg [
 O 76 (.mov (.t 13)),
 O 10 (.mov (.t 76)),
 O 11 (.mov (.c (I 0)))] [13, 76]) (
 .ret)))))))))⟩
def F727 : PF := ⟨4, [.c 8 (K1 10), .t 9],
 sq (.reg [
 O 4 (.box (K1 22) (.t 0)),
 O 5 (.box (K1 11) (.t 1)),
 O 6 (.box (K1 11) (.t 2)),
 O 8 (.alloc (K1 10) (.a [(I 0), (I 0), (I 0), (I 0), (I 0), (I 0), (.s []), (.s []), (.l (K1 3) [] true), (.i .u64 0)])),
 O 9 (.mov (.c (.b false)))] [9, 2, 1, 0]) (
 sq (.reg [
 O 20 (.load (K1 22) (.t 4)),
 O 21 (.faddr 0 (.t 6)),
 O 22 (.load K0 (.t 21)),
 O 23 (.faddr 2 (.t 6)),
 O 24 (.load K0 (.t 23)),
 O 25 (.call 0 24 [(.t 20), (.t 22), (.t 24)]),
 O 19 (.mov (.t 25)),
 O 26 (.ext (.t 19) 0),
 O 27 (.ext (.t 19) 1),
 O 10 (.alloc (K1 19) (.a [(.s []), (.s []), (.s []), (I 0), (I 0), (I 0), (I 0), (.l (K1 2) [] true), (.b false), (I 0), (I 0), (.b false), (.l (K1 2) [] true), (.b false), (I 0), (I 0), (.b false), (.l (K1 10) [] true), (.l (K1 6) [] true)])),
 E (.store (K1 19) (.t 10) (.t 26)),
 O 11 (.mov (.t 27))] [27, 26, 19, 25, 24, 23, 22, 21, 20]) (
 sq (sq (.reg [
 O 28 (.mov (.t 11)),
 O 29 (.un .not (.t 28))] [11, 28]) (
 .cond (.t 29) (sq (.reg [
 O 30 (.agg [(I 0), (I 0), (I 0), (I 0), (I 0), (I 0), (.s []), (.s []), (.l (K1 3) [] true), (.i .u64 0)] []),
 E (.store (K1 10) (.t 8) (.t 30)),
 O 9 (.mov (.c (.b false)))] [30]) (
 .ret))
 (.skip))) (
 sq (.reg [
 O 31 (.faddr 3 (.t 6)),
 O 32 (.load K0 (.t 31)),
 O 33 (.faddr 3 (.t 5)),
 O 34 (.load K0 (.t 33)),
 O 35 (.bin .sub (.t 32) (.t 34)),
 O 36 (.faddr 4 (.t 6)),
 O 37 (.load K0 (.t 36)),
 O 38 (.faddr 4 (.t 5)),
 O 39 (.load K0 (.t 38)),
 O 40 (.bin .sub (.t 37) (.t 39)),
 O 41 (.agg [(I 0), (I 0)] [(0, K0, (.t 35)), (1, K0, (.t 40))]),
 O 12 (.alloc (K1 2) (.a [(I 0), (I 0)])),
 E (.store (K1 2) (.t 12) (.t 41))] [41, 40, 39, 38, 37, 36, 35, 34, 33, 32, 31]) (
 sq (.reg [
 O 42 (.faddr 5 (.t 6)),
 O 43 (.load K0 (.t 42)),
 O 44 (.faddr 5 (.t 5)),
 O 45 (.load K0 (.t 44)),
 O 46 (.bin .sub (.t 43) (.t 45)),
 O 13 (.mov (.t 46))] [46, 45, 44, 43, 42]) (
 sq (.reg [
 O 47 (.mkf 806 [(.t 10)]),
 O 14 (.mov (.t 47))] [10, 47]) (
 sq (.regD [
 O 48 (.mov (.t 14)),
 O 49 (.faddr 3 (.t 4)),
 O 50 (.faddr 2 (.t 49)),
 O 51 (.load K0 (.t 50)),
 O 52 (.faddr 0 (.t 12)),
 O 53 (.load K0 (.t 52)),
 O 54 (.callv (.t 48) [(.t 51), (.t 53)]),
 O 55 (.mov (.t 14)),
 O 56 (.faddr 3 (.t 4)),
 O 57 (.faddr 3 (.t 56)),
 O 58 (.load K0 (.t 57)),
 O 59 (.faddr 1 (.t 12)),
 O 60 (.load K0 (.t 59)),
 O 61 (.un .neg (.t 60)),
 O 62 (.callv (.t 55) [(.t 58), (.t 61)]),
 O 63 (.mov (.t 14)),
 O 64 (.faddr 3 (.t 4)),
 O 65 (.faddr 5 (.t 64)),
 O 66 (.load K0 (.t 65)),
 O 67 (.mov (.t 13)),
 O 68 (.un .neg (.t 67)),
 O 69 (.callv (.t 63) [(.t 66), (.t 68)]),
 O 70 (.mov (.t 14)),
 O 71 (.faddr 0 (.t 6)),
 O 72 (.load K0 (.t 71)),
 O 73 (.faddr 0 (.t 12)),
 O 74 (.load K0 (.t 73)),
 O 75 (.un .neg (.t 74)),
 O 76 (.faddr 1 (.t 12)),
 O 77 (.load K0 (.t 76)),
 O 78 (.bin .add (.t 75) (.t 77)),
 O 79 (.mov (.t 13)),
 O 80 (.bin .add (.t 78) (.t 79)),
 O 81 (.callv (.t 70) [(.t 72), (.t 80)]),
 O 82 (.bsl (K1 3) (.a [(I 0), (I 0), (.s [])]) 4 [(0, (.t 54)), (1, (.t 62)), (2, (.t 69)), (3, (.t 81))]),
 O 83 (.call 0 110 [(.t 82)]),
 O 15 (.mov (.t 83))] [0, 0, 2, 6, 0, 16, 63, 0, 0, 256, 768, 0, 2048, 6144, 16383, 0, 0, 65536, 196608, 0, 524288, 2097151, 0, 0, 8388608, 0, 33554432, 100663296, 0, 268435456, 1040187392, 0, 4261412864, 8589934591, 17179869183, 34359738367, 68719476735] [83, 82, 81, 80, 79, 78, 77, 76, 75, 74, 73, 72, 71, 70, 69, 68, 13, 67, 66, 65, 64, 63, 62, 61, 60, 59, 58, 57, 56, 55, 54, 53, 12, 52, 51, 50, 4, 49, 14, 48]) (
 sq (sq (.reg [
 O 84 (.mov (.t 15)),
 O 85 (.len false (.t 84)),
 O 86 (.bin .eql (.t 85) (.c (I 0)))] [85, 84]) (
 .cond (.t 86) (sq (.reg [
 O 87 (.agg [(I 0), (I 0), (I 0), (I 0), (I 0), (I 0), (.s []), (.s []), (.l (K1 3) [] true), (.i .u64 0)] []),
 E (.store (K1 10) (.t 8) (.t 87)),
 O 9 (.mov (.c (.b false)))] [87]) (
 .ret))
 (.skip))) (
 sq (.reg [
 O 16 (.mov (.c (I 5)))] []) (
 sq (sq (.reg [
 O 88 (.faddr 6 (.t 5)),
 O 89 (.load K0 (.t 88)),
 O 90 (.bin .eql (.t 89) (.c (I 0)))] [89, 88]) (
 .cond (.t 90) (.reg [
 O 16 (.mov (.c (I 4)))] [])
 (.skip))) (
 sq (.reg [
 O 17 (.mov (.c (I 73048)))] []) (
 sq (sq (.reg [
 O 91 (.faddr 2 (.t 6)),
 O 92 (.load K0 (.t 91)),
 O 93 (.bin .lss (.t 92) (.c (I 73048)))] [92, 91]) (
 .cond (.t 93) (.reg [
 O 94 (.faddr 2 (.t 6)),
 O 95 (.load K0 (.t 94)),
 O 96 (.bin .add (.t 95) (.c (I 1))),
 O 17 (.mov (.t 96))] [96, 95, 94])
 (.skip))) (
 sq (.regD [
 O 97 (.faddr 0 (.t 6)),
 O 98 (.load K0 (.t 97)),
 O 99 (.call 0 109 [(.t 98)]),
 O 100 (.bin .add (.c (.s [105, 110, 116, 47])) (.t 99)),
 O 101 (.bin .add (.t 100) (.c (.s [47]))),
 O 102 (.faddr 2 (.t 6)),
 O 103 (.load K0 (.t 102)),
 O 104 (.call 0 109 [(.t 103)]),
 O 105 (.bin .add (.t 101) (.t 104)),
 O 106 (.bin .add (.t 105) (.c (.s [47]))),
 O 107 (.faddr 6 (.t 5)),
 O 108 (.load K0 (.t 107)),
 O 109 (.call 0 109 [(.t 108)]),
 O 110 (.bin .add (.t 106) (.t 109)),
 O 18 (.mov (.t 110))] [0, 1, 3, 7, 15, 0, 32, 103, 255, 511, 0, 1024, 3303, 8191, 16383] [110, 109, 108, 5, 107, 106, 105, 104, 103, 102, 101, 100, 99, 98, 97]) (
 sq (.reg [
 O 111 (.mov (.t 3)),
 O 112 (.mov (.t 17)),
 O 113 (.mov (.t 16)),
 O 114 (.faddr 2 (.t 6)),
 O 115 (.load K0 (.t 114)),
 O 116 (.mov (.t 18)),
 O 117 (.mov (.t 15)),
 O 118 (.agg [(I 0), (I 0), (I 0), (I 0), (I 0), (I 0), (.s []), (.s []), (.l (K1 3) [] true), (.i .u64 0)] [(1, K0, (.t 111)), (2, K0, (.t 112)), (3, K0, (.t 113)), (4, K0, (.c (I 1))), (5, K0, (.t 115)), (6, K0, (.t 116)), (7, K0, (.c (.s [105, 110, 116, 101, 114, 101, 115, 116]))), (8, K0, (.t 117))]),
 E (.store (K1 10) (.t 8) (.t 118)),
 O 9 (.mov (.c (.b true)))] [118, 15, 117, 18, 116, 115, 6, 114, 16, 113, 17, 112, 3, 111]) (
 .ret))))))))))))))⟩
def F770 : PF := ⟨1, [.t 2],
 sq (.reg [
 O 1 (.box (K1 3) (.t 0)),
 O 2 (.mov (.c (I 0)))] [2, 0]) (
 sq (sq (.reg [
 O 3 (.faddr 0 (.t 1)),
 O 4 (.load K0 (.t 3)),
 O 5 (.bin .lss (.t 4) (.c (I 1))),
 O 6 (.mov (.t 5)),
 OG 7 6 false (.faddr 1 (.t 1)),
 OG 8 6 false (.load K0 (.t 7)),
 OG 9 6 false (.bin .eql (.t 8) (.c (I 0))),
 O 10 (.pick (.t 6) (.c (.b true)) (.t 9)),
 O 11 (.mov (.t 10)),
 OG 12 11 false (.faddr 1 (.t 1)),
 OG 13 11 false (.load K0 (.t 12)),
 OG 14 11 false (.bin .lss (.t 13) (.c (I (-1000000000000)))),
 O 15 (.pick (.t 11) (.c (.b true)) (.t 14)),
 O 16 (.mov (.t 15)),
 OG 17 16 false (.faddr 1 (.t 1)),
 OG 18 16 false (.load K0 (.t 17)),
 OG 19 16 false (.bin .gtr (.t 18) (.c (I 1000000000000))),
 O 20 (.pick (.t 16) (.c (.b true)) (.t 19))] [19, 18, 17, 16, 15, 14, 13, 12, 11, 10, 9, 8, 7, 6, 5, 4, 3]) (
 .cond (.t 20) (sq (.reg [
 O 2 (.mov (.c (I 1)))] []) (
 .ret))
 (.skip))) (
 sq (sq (.reg [
 O 21 (.faddr 2 (.t 1)),
 O 22 (.load K0 (.t 21)),
 O 23 (.call 0 861 [(.t 22)]),
 O 24 (.un .not (.t 23))] [23, 22, 1, 21]) (
 .cond (.t 24) (sq (.reg [
 O 2 (.mov (.c (I 14)))] []) (
 .ret))
 (.skip))) (
 sq (.reg [
 O 2 (.mov (.c (I 0)))] []) (
 .ret))))⟩
def L771_0 : PC :=
 sq (sq (.regD [
 O 14 (.mov (.t 6)),
 O 15 (.mov (.t 3)),
 O 16 (.len false (.t 15)),
 O 17 (.bin .lss (.t 14) (.t 16)),
 O 18 (.mov (.t 17)),
 OG 19 18 true (.mov (.t 3)),
 OG 20 18 true (.mov (.t 6)),
 OG 21 18 true (.iaddr (K1 2) (.t 19) (.t 20)),
 OG 22 18 true (.faddr 0 (.t 21)),
 OG 23 18 true (.load K0 (.t 22)),
 OG 24 18 true (.mov (.t 0)),
 OG 25 18 true (.mov (.t 4)),
 OG 26 18 true (.iaddr (K1 3) (.t 24) (.t 25)),
 OG 27 18 true (.faddr 2 (.t 26)),
 OG 28 18 true (.load K0 (.t 27)),
 OG 29 18 true (.bin .lss (.t 23) (.t 28)),
 O 30 (.pick (.t 18) (.t 29) (.c (.b false)))] [0, 0, 2, 7, 15, 31, 31, 127, 255, 511, 31, 31, 3103, 7199, 15391, 32767, 65535] [29, 28, 27, 26, 25, 24, 23, 22, 21, 20, 19, 18, 17, 16, 15, 14]) (
 .cond (.t 30) (.skip)
 (.exit 2))) (
 .block 3 (
 .reg [
 O 31 (.mov (.t 6)),
 O 32 (.bin .add (.t 31) (.c (I 1))),
 O 6 (.mov (.t 32))] [32, 31]))
def L771_1 : PC :=
 sq (sq (.reg [
 O 8 (.mov (.t 4)),
 O 9 (.mov (.t 0)),
 O 10 (.len false (.t 9)),
 O 11 (.bin .lss (.t 8) (.t 10))] [10, 9, 8]) (
 .cond (.t 11) (.skip)
 (.exit 0))) (
 sq (.block 1 (
 sq (.reg [
 O 5 (.mov (.c (.l (K1 2) [] true)))] []) (
 sq (.reg [
 O 6 (.mov (.c (I 0)))] []) (
 sq (.block 2 (
 .loop [0, 3, 4, 5, 6] L771_0)) (
 sq (.reg [
 O 33 (.mov (.t 5)),
 O 34 (.mov (.t 3)),
 O 35 (.mov (.t 6)),
 O 36 (.sl (K1 2) (.t 34) none (some (.t 35)) none),
 O 37 (.app (K1 2) 24 (.t 33) (.t 36)),
 O 5 (.mov (.t 37))] [37, 36, 35, 34, 33]) (
 sq (.reg [
 O 38 (.mov (.t 0)),
 O 39 (.mov (.t 4)),
 O 40 (.iaddr (K1 3) (.t 38) (.t 39)),
 O 41 (.faddr 1 (.t 40)),
 O 42 (.load K0 (.t 41)),
 O 7 (.mov (.t 42))] [42, 41, 40, 39, 38]) (
 sq (sq (.regD [
 O 43 (.mov (.t 6)),
 O 44 (.mov (.t 3)),
 O 45 (.len false (.t 44)),
 O 46 (.bin .lss (.t 43) (.t 45)),
 O 47 (.mov (.t 46)),
 OG 48 47 true (.mov (.t 3)),
 OG 49 47 true (.mov (.t 6)),
 OG 50 47 true (.iaddr (K1 2) (.t 48) (.t 49)),
 OG 51 47 true (.faddr 0 (.t 50)),
 OG 52 47 true (.load K0 (.t 51)),
 OG 53 47 true (.mov (.t 0)),
 OG 54 47 true (.mov (.t 4)),
 OG 55 47 true (.iaddr (K1 3) (.t 53) (.t 54)),
 OG 56 47 true (.faddr 2 (.t 55)),
 OG 57 47 true (.load K0 (.t 56)),
 OG 58 47 true (.bin .eql (.t 52) (.t 57)),
 O 59 (.pick (.t 47) (.t 58) (.c (.b false)))] [0, 0, 2, 7, 15, 31, 31, 127, 255, 511, 31, 31, 3103, 7199, 15391, 32767, 65535] [58, 57, 56, 55, 54, 53, 52, 51, 50, 49, 48, 47, 46, 45, 44, 43]) (
 .cond (.t 59) (sq (.reg [
 O 60 (.mov (.t 7)),
 O 61 (.mov (.t 3)),
 O 62 (.mov (.t 6)),
 O 63 (.iaddr (K1 2) (.t 61) (.t 62)),
 O 64 (.faddr 1 (.t 63)),
 O 65 (.load K0 (.t 64)),
 O 66 (.bin .add (.t 60) (.t 65)),
 O 7 (.mov (.t 66))] [66, 65, 64, 63, 62, 61, 60]) (
 .reg [
 O 67 (.mov (.t 6)),
 O 68 (.bin .add (.t 67) (.c (I 1))),
 O 6 (.mov (.t 68))] [68, 67]))
 (.skip))) (
 sq (.reg [
 O 69 (.mov (.t 5)),
 O 70 (.mov (.t 0)),
 O 71 (.mov (.t 4)),
 O 72 (.iaddr (K1 3) (.t 70) (.t 71)),
 O 73 (.faddr 2 (.t 72)),
 O 74 (.load K0 (.t 73)),
 O 75 (.mov (.t 7)),
 O 76 (.agg [(.s []), (I 0)] [(0, K0, (.t 74)), (1, K0, (.t 75))]),
 O 77 (.bsl (K1 2) (.a [(.s []), (I 0)]) 1 [(0, (.t 76))]),
 O 78 (.app (K1 2) 24 (.t 69) (.t 77)),
 O 5 (.mov (.t 78))] [78, 77, 76, 7, 75, 74, 73, 72, 71, 70, 69]) (
 sq (.reg [
 O 79 (.mov (.t 5)),
 O 80 (.mov (.t 3)),
 O 81 (.mov (.t 6)),
 O 82 (.sl (K1 2) (.t 80) (some (.t 81)) none none),
 O 83 (.app (K1 2) 24 (.t 79) (.t 82)),
 O 5 (.mov (.t 83))] [83, 82, 6, 81, 3, 80, 79]) (
 .reg [
 O 84 (.mov (.t 5)),
 O 3 (.mov (.t 84))] [5, 84])))))))))) (
 .reg [
 O 12 (.mov (.t 4)),
 O 13 (.bin .add (.t 12) (.c (I 1))),
 O 4 (.mov (.t 13))] [13, 12]))
def F771 : PF := ⟨1, [.t 2],
 sq (.reg [
 O 2 (.mov (.c (.l (K1 2) [] true)))] [2]) (
 sq (.reg [
 O 3 (.mov (.c (.l (K1 2) [] true)))] []) (
 sq (sq (.reg [
 O 4 (.mov (.c (I 0)))] []) (
 .block 0 (
 .loop [0, 3, 4] L771_1))) (
 sq (.reg [
 O 85 (.mov (.t 3)),
 O 2 (.mov (.t 85))] [3, 85]) (
 .ret))))⟩
def L772_0 : PC :=
 sq (sq (.reg [
 O 6 (.mov (.t 5)),
 O 7 (.mov (.t 1)),
 O 8 (.len true (.t 7)),
 O 9 (.bin .lss (.t 6) (.t 8))] [8, 7, 6]) (
 .cond (.t 9) (.skip)
 (.exit 0))) (
 sq (.block 1 (
 .reg [
 O 12 (.mov (.t 0)),
 O 13 (.mov (.t 1)),
 O 14 (.mov (.t 5)),
 O 15 (.idxS (.t 13) (.t 14)),
 O 16 (.conv .u64 (.t 15)),
 O 17 (.bin .xor (.t 12) (.t 16)),
 O 18 (.bin .mul (.t 17) (.c (.i .u64 1099511628211))),
 O 0 (.mov (.t 18))] [18, 17, 16, 15, 14, 13, 12])) (
 .reg [
 O 10 (.mov (.t 5)),
 O 11 (.bin .add (.t 10) (.c (I 1))),
 O 5 (.mov (.t 11))] [11, 10]))
def F772 : PF := ⟨2, [.t 4],
 sq (.reg [
 O 4 (.mov (.c (.i .u64 0)))] [4]) (
 sq (sq (.reg [
 O 5 (.mov (.c (I 0)))] []) (
 .block 0 (
 .loop [0, 1, 5] L772_0))) (
 sq (.reg [
 O 19 (.mov (.t 0)),
 O 4 (.mov (.t 19))] [0, 19]) (
 .ret)))⟩
def F773 : PF := ⟨1, [.t 2],
 sq (.reg [
 O 2 (.mov (.c (.i .u64 0)))] [2]) (
 sq (.reg [
 O 3 (.mov (.t 0)),
 O 4 (.call 0 772 [(.c (.i .u64 14695981039346656037)), (.t 3)]),
 O 2 (.mov (.t 4))] [4, 0, 3]) (
 .ret))⟩
def L774_0 : PC :=
 sq (sq (.reg [
 O 6 (.mov (.t 4)),
 O 7 (.bin .lss (.t 6) (.c (I 8)))] [6]) (
 .cond (.t 7) (.skip)
 (.exit 0))) (
 sq (.block 1 (
 sq (.reg [
 O 10 (.mov (.t 3)),
 O 11 (.mov (.t 0)),
 O 12 (.bin .rem (.t 11) (.c (.i .u64 256))),
 O 13 (.conv .u8 (.t 12)),
 O 14 (.bsl K0 (.i .u8 0) 1 [(0, (.t 13))]),
 O 15 (.app K0 1 (.t 10) (.t 14)),
 O 3 (.mov (.t 15))] [15, 14, 13, 12, 11, 10]) (
 .reg [
 O 16 (.mov (.t 0)),
 O 17 (.bin .quo (.t 16) (.c (.i .u64 256))),
 O 0 (.mov (.t 17))] [17, 16]))) (
 .reg [
 O 8 (.mov (.t 4)),
 O 9 (.bin .add (.t 8) (.c (I 1))),
 O 4 (.mov (.t 9))] [9, 8]))
def F774 : PF := ⟨1, [.t 2],
 sq (.reg [
 O 2 (.mov (.c (.s [])))] [2]) (
 sq (.reg [
 O 5 (.bsl K0 (.i .u8 0) 0 []),
 O 3 (.mov (.t 5))] [5]) (
 sq (sq (.reg [
 O 4 (.mov (.c (I 0)))] []) (
 .block 0 (
 .loop [0, 3, 4] L774_0))) (
 sq (.reg [
 O 18 (.mov (.t 3)),
 O 19 (.sb (.t 18)),
 O 2 (.mov (.t 19))] [19, 3, 18]) (
 .ret))))⟩
def L775_0 : PC :=
 sq (sq (.reg [
 O 5 (.mov (.t 4)),
 O 6 (.mov (.t 0)),
 O 7 (.len false (.t 6)),
 O 8 (.bin .lss (.t 5) (.t 7))] [7, 6, 5]) (
 .cond (.t 8) (.skip)
 (.exit 0))) (
 sq (.block 1 (
 .regD [
 O 11 (.mov (.t 3)),
 O 12 (.mov (.t 0)),
 O 13 (.mov (.t 4)),
 O 14 (.iaddr K0 (.t 12) (.t 13)),
 O 15 (.load K0 (.t 14)),
 O 16 (.len true (.t 15)),
 O 17 (.call 0 776 [(.t 16)]),
 O 18 (.bin .add (.t 11) (.t 17)),
 O 19 (.bin .add (.t 18) (.c (.s [58]))),
 O 20 (.mov (.t 0)),
 O 21 (.mov (.t 4)),
 O 22 (.iaddr K0 (.t 20) (.t 21)),
 O 23 (.load K0 (.t 22)),
 O 24 (.bin .add (.t 19) (.t 23)),
 O 3 (.mov (.t 24))] [0, 0, 0, 6, 14, 30, 62, 127, 255, 0, 0, 1536, 3584, 8191, 16383] [24, 23, 22, 21, 20, 19, 18, 17, 16, 15, 14, 13, 12, 11])) (
 .reg [
 O 9 (.mov (.t 4)),
 O 10 (.bin .add (.t 9) (.c (I 1))),
 O 4 (.mov (.t 10))] [10, 9]))
def F775 : PF := ⟨1, [.t 2],
 sq (.reg [
 O 2 (.mov (.c (.s [])))] [2]) (
 sq (.reg [
 O 3 (.mov (.c (.s [])))] []) (
 sq (sq (.reg [
 O 4 (.mov (.c (I 0)))] []) (
 .block 0 (
 .loop [0, 3, 4] L775_0))) (
 sq (.reg [
 O 25 (.mov (.t 3)),
 O 2 (.mov (.t 25))] [3, 25]) (
 .ret))))⟩
def F776 : PF := ⟨1, [.t 2],
 sq (.reg [
 O 2 (.mov (.c (.s [])))] [2]) (
 sq (sq (.reg [
 O 3 (.mov (.t 0)),
 O 4 (.bin .geq (.t 3) (.c (I 0)))] [3]) (
 .cond (.t 4) (sq (.reg [
 O 5 (.mov (.t 0)),
 O 6 (.conv .u64 (.t 5)),
 O 7 (.call 0 862 [(.t 6)]),
 O 2 (.mov (.t 7))] [7, 6, 0, 5]) (
 .ret))
 (.skip))) (
 sq (.reg [
 O 8 (.mov (.t 0)),
 O 9 (.conv .u64 (.t 8)),
 O 10 (.un .xor (.t 9)),
 O 11 (.bin .add (.t 10) (.c (.i .u64 1))),
 O 12 (.call 0 862 [(.t 11)]),
 O 13 (.bin .add (.c (.s [45])) (.t 12)),
 O 2 (.mov (.t 13))] [13, 12, 11, 10, 9, 0, 8]) (
 .ret)))⟩
def L777_0 : PC :=
 sq (sq (.reg [
 O 16 (.mov (.t 6)),
 O 17 (.mov (.t 0)),
 O 18 (.len false (.t 17)),
 O 19 (.bin .lss (.t 16) (.t 18))] [18, 17, 16]) (
 .cond (.t 19) (.skip)
 (.exit 0))) (
 sq (.block 1 (
 sq (.reg [
 O 22 (.mov (.t 0)),
 O 23 (.mov (.t 6)),
 O 24 (.iaddr (K1 10) (.t 22) (.t 23)),
 O 25 (.load (K1 10) (.t 24)),
 O 7 (.alloc (K1 10) (.a [(I 0), (I 0), (I 0), (I 0), (I 0), (I 0), (I 0), (I 0), (I 0), (.s [])])),
 E (.store (K1 10) (.t 7) (.t 25))] [25, 24, 23, 22]) (
 sq (.reg [
 O 26 (.mov (.t 1)),
 O 27 (.load (K1 10) (.t 7)),
 O 28 (.callv (.t 26) [(.t 27)]),
 O 29 (.un .not (.t 28))] [28, 27, 26]) (
 .cond (.t 29) (sq (.reg [
 O 30 (.mov (.t 0)),
 O 31 (.mov (.t 5)),
 O 32 (.load (K1 10) (.t 7)),
 O 33 (.iaddr (K1 10) (.t 30) (.t 31)),
 E (.store (K1 10) (.t 33) (.t 32))] [33, 7, 32, 31, 30]) (
 .reg [
 O 34 (.mov (.t 5)),
 O 35 (.bin .add (.t 34) (.c (I 1))),
 O 5 (.mov (.t 35))] [35, 34]))
 (.skip))))) (
 .reg [
 O 20 (.mov (.t 6)),
 O 21 (.bin .add (.t 20) (.c (I 1))),
 O 6 (.mov (.t 21))] [21, 20]))
def F777 : PF := ⟨2, [.t 4],
 sq (.reg [
 O 4 (.mov (.c (.l (K1 10) [] true)))] [4]) (
 sq (.reg [
 O 8 (.mov (.t 0)),
 O 9 (.mov (.t 1)),
 O 10 (.call 2 799 [(.t 8), (.t 9)]),
 O 5 (.mov (.t 10))] [10, 9, 8]) (
 sq (sq (.reg [
 O 11 (.mov (.t 5)),
 O 12 (.bin .eql (.t 11) (.c (I (-1))))] [11]) (
 .cond (.t 12) (sq (.reg [
 O 13 (.mov (.t 0)),
 O 4 (.mov (.t 13))] [0, 13]) (
 .ret))
 (.skip))) (
 sq (sq (.reg [
 O 14 (.mov (.t 5)),
 O 15 (.bin .add (.t 14) (.c (I 1))),
 O 6 (.mov (.t 15))] [15, 14]) (
 .block 0 (
 .loop [0, 1, 5, 6] L777_0))) (
 sq (.reg [
 O 36 (.mov (.t 0)),
 O 37 (.mov (.t 5)),
 O 38 (.sl (K1 10) (.t 36) (some (.t 37)) none none),
 E (.clr (K1 10) (.a [(I 0), (I 0), (I 0), (I 0), (I 0), (I 0), (I 0), (I 0), (I 0), (.s [])]) (.t 38))] [38, 37, 36]) (
 sq (.reg [
 O 39 (.mov (.t 0)),
 O 40 (.mov (.t 5)),
 O 41 (.sl (K1 10) (.t 39) none (some (.t 40)) none),
 O 4 (.mov (.t 41))] [41, 5, 40, 0, 39]) (
 .ret))))))⟩
def F778 : PF := ⟨2, [.t 4],
 sq (.reg [
 O 3 (.box K0 (.t 1)),
 O 4 (.mov (.c (.l (K1 10) [] true)))] [4, 1]) (
 sq (.reg [
 O 5 (.mov (.t 0)),
 O 6 (.call 1 148 [(.t 5)]),
 O 7 (.mkf 863 [(.t 3)]),
 O 8 (.call 2 777 [(.t 6), (.t 7)]),
 O 4 (.mov (.t 8))] [8, 3, 7, 6, 0, 5]) (
 .ret))⟩
def F779 : PF := ⟨2, [.t 3],
 sq (.reg [
 O 2 (.box (K1 10) (.t 0)),
 O 3 (.mov (.c (.b false)))] [3, 0]) (
 sq (.reg [
 O 4 (.load (K1 70) (.t 1)),
 O 5 (.faddr 1 (.t 2)),
 O 6 (.load K0 (.t 5)),
 O 7 (.call 0 780 [(.t 4), (.t 6)]),
 O 8 (.un .not (.t 7)),
 O 3 (.mov (.t 8))] [8, 7, 6, 2, 5, 1, 4]) (
 .ret))⟩
def F780 : PF := ⟨2, [.t 4],
 sq (.reg [
 O 2 (.box (K1 70) (.t 0)),
 O 4 (.mov (.c (.b false)))] [4, 0]) (
 sq (.regD [
 O 5 (.mov (.t 1)),
 O 6 (.faddr 0 (.t 2)),
 O 7 (.faddr 35 (.t 6)),
 O 8 (.faddr 2 (.t 7)),
 O 9 (.load K0 (.t 8)),
 O 10 (.call 0 864 [(.t 5), (.t 9)]),
 O 11 (.faddr 42 (.t 2)),
 O 12 (.faddr 1 (.t 11)),
 O 13 (.load K0 (.t 12)),
 O 14 (.bin .eql (.t 10) (.t 13)),
 O 4 (.mov (.t 14))] [0, 0, 2, 6, 14, 31, 0, 64, 192, 511, 1023] [14, 13, 12, 11, 10, 9, 8, 7, 2, 6, 1, 5]) (
 .ret))⟩
def F781 : PF := ⟨3, [.t 6],
 sq (.reg [
 O 4 (.box (K1 2) (.t 1)),
 O 6 (.mov (.c (.s [])))] [6, 1]) (
 sq (.reg [
 O 7 (.mov (.t 0)),
 O 8 (.load (K1 2) (.t 4)),
 O 9 (.call 0 561 [(.t 7), (.t 8)]),
 O 10 (.mov (.t 2)),
 O 11 (.call 0 109 [(.t 10)]),
 O 12 (.bin .add (.t 9) (.t 11)),
 O 6 (.mov (.t 12))] [12, 11, 2, 10, 9, 4, 8, 0, 7]) (
 .ret))⟩
def F787 : PF := ⟨1, [.t 2],
 sq (.reg [
 O 2 (.mov (.c (I 0)))] [2]) (
 sq (sq (.reg [
 O 6 (.mov (.t 0)),
 O 7 (.call 0 22 [(.t 6)]),
 O 8 (.un .not (.t 7))] [7, 6]) (
 .cond (.t 8) (sq (.reg [
 O 2 (.mov (.c (I (-1))))] []) (
 .ret))
 (.skip))) (
 sq (.reg [
 O 10 (.mov (.t 0)),
 O 11 (.call 0 65 [(.t 10)]),
 O 9 (.mov (.t 11)),
 O 12 (.ext (.t 9) 0),
 O 13 (.ext (.t 9) 1),
 O 14 (.ext (.t 9) 2),
 O 3 (.mov (.t 12)),
 O 4 (.mov (.t 13)),
 O 5 (.mov (.t 14))] [14, 13, 12, 9, 11, 10]) (
 sq (.reg [
 O 15 (.mov (.t 0)),
 O 16 (.mov (.t 5)),
 O 17 (.bin .sub (.t 15) (.t 16)),
 O 18 (.mov (.t 3)),
 O 19 (.mov (.t 4)),
 O 20 (.call 0 72 [(.t 18), (.t 19)]),
 O 21 (.bin .add (.t 17) (.t 20)),
 O 2 (.mov (.t 21))] [21, 20, 4, 19, 3, 18, 17, 5, 16, 0, 15]) (
 .ret))))⟩
def F788 : PF := ⟨5, [.c 10 (K1 22), .t 11, .t 12],
 sq (.reg [
 O 5 (.box (K1 22) (.t 0)),
 O 7 (.box K0 (.t 2)),
 O 9 (.box K0 (.t 4)),
 O 10 (.alloc (K1 22) (.a [(.l (K1 2) [] true), (.l (K1 3) [] true), (.l (K1 4) [] true), (I 0), (I 0), (I 0), (I 0), (I 0), (I 0), (I 0), (I 0), (I 0), (I 0), (I 0), (I 0), (I 0), (I 0), (.l (K1 19) [] true), (.l (K1 7) [] true), (.l (K1 10) [] true), (.l (K1 6) [] true), (.l (K1 7) [] true)])),
 O 11 (.mov (.c (.l (K1 11) [] true))),
 O 12 (.mov (.c (I 0)))] [12, 11, 4, 2, 0]) (
 sq (.reg [
 O 19 (.load (K1 22) (.t 5)),
 O 20 (.load K0 (.t 7)),
 O 21 (.call 0 12 [(.t 19), (.t 20)]),
 O 18 (.mov (.t 21)),
 O 22 (.ext (.t 18) 0),
 O 23 (.ext (.t 18) 1),
 O 13 (.alloc (K1 7) (.a [(I 0), (I 0), (I 0), (I 0), (.s []), (.s []), (.s [])])),
 E (.store (K1 7) (.t 13) (.t 22)),
 O 14 (.mov (.t 23))] [23, 22, 18, 21, 20, 19]) (
 sq (sq (.reg [
 O 24 (.mov (.t 14)),
 O 25 (.un .not (.t 24))] [14, 24]) (
 .cond (.t 25) (sq (.reg [
 O 26 (.agg [(.l (K1 2) [] true), (.l (K1 3) [] true), (.l (K1 4) [] true), (I 0), (I 0), (I 0), (I 0), (I 0), (I 0), (I 0), (I 0), (I 0), (I 0), (I 0), (I 0), (I 0), (I 0), (.l (K1 19) [] true), (.l (K1 7) [] true), (.l (K1 10) [] true), (.l (K1 6) [] true), (.l (K1 7) [] true)] []),
 E (.store (K1 22) (.t 10) (.t 26)),
 O 11 (.mov (.c (.l (K1 11) [] true))),
 O 12 (.mov (.c (I 11)))] [26]) (
 .ret))
 (.skip))) (
 sq (.reg [
 O 27 (.mov (.t 1)),
 O 28 (.load (K1 7) (.t 13)),
 O 29 (.call 0 21 [(.t 27), (.t 28)]),
 O 15 (.mov (.t 29))] [29, 13, 28, 27]) (
 sq (sq (.reg [
 O 30 (.mov (.t 3)),
 O 31 (.call 0 22 [(.t 30)]),
 O 32 (.un .not (.t 31)),
 O 33 (.mov (.t 32)),
 OG 34 33 false (.load K0 (.t 9)),
 OG 35 33 false (.call 0 22 [(.t 34)]),
 OG 36 33 false (.un .not (.t 35)),
 O 37 (.pick (.t 33) (.c (.b true)) (.t 36)),
 O 38 (.mov (.t 37)),
 OG 39 38 false (.mov (.t 15)),
 OG 40 38 false (.call 0 22 [(.t 39)]),
 OG 41 38 false (.un .not (.t 40)),
 OG 42 38 false (.mov (.t 41)),
 OG 43 42 true (.mov (.t 15)),
 OG 44 42 true (.bin .neq (.t 43) (.c (I 73049))),
 OG 45 38 false (.pick (.t 42) (.t 44) (.c (.b false))),
 O 46 (.pick (.t 38) (.c (.b true)) (.t 45))] [45, 44, 43, 42, 41, 40, 39, 38, 37, 36, 35, 34, 33, 32, 31, 30]) (
 .cond (.t 46) (sq (.reg [
 O 47 (.agg [(.l (K1 2) [] true), (.l (K1 3) [] true), (.l (K1 4) [] true), (I 0), (I 0), (I 0), (I 0), (I 0), (I 0), (I 0), (I 0), (I 0), (I 0), (I 0), (I 0), (I 0), (I 0), (.l (K1 19) [] true), (.l (K1 7) [] true), (.l (K1 10) [] true), (.l (K1 6) [] true), (.l (K1 7) [] true)] []),
 E (.store (K1 22) (.t 10) (.t 47)),
 O 11 (.mov (.c (.l (K1 11) [] true))),
 O 12 (.mov (.c (I 1)))] [47]) (
 .ret))
 (.skip))) (
 sq (.reg [
 O 48 (.mov (.t 1)),
 O 49 (.call 1 147 [(.t 48)]),
 O 16 (.alloc K0 (.l (K1 11) [] true)),
 E (.store K0 (.t 16) (.t 49))] [49, 1, 48]) (
 sq (sq (.reg [
 O 50 (.mov (.t 15)),
 O 51 (.mov (.t 3)),
 O 52 (.bin .gtr (.t 50) (.t 51))] [51, 50]) (
 .cond (.t 52) (sq (.regD [
 O 53 (.load (K1 22) (.t 5)),
 O 54 (.load K0 (.t 16)),
 E (.store (K1 22) (.t 10) (.t 53)),
 O 11 (.mov (.t 54)),
 O 12 (.mov (.c (I 0)))] [0, 0, 1, 7, 15] [16, 54, 5, 53]) (
 .ret))
 (.skip))) (
 sq (.reg [
 O 17 (.alloc K0 (I 0)),
 E (.store K0 (.t 17) (.c (I 0)))] []) (
 sq (.reg [
 O 55 (.mov (.t 15)),
 O 56 (.mov (.t 3)),
 O 57 (.mkf 867 [(.t 5), (.t 7), (.t 16), (.t 9), (.t 17)]),
 O 58 (.call 2 866 [(.t 55), (.t 56), (.t 57)])] [58, 9, 7, 57, 3, 56, 15, 55]) (
 sq (sq (.reg [
 O 59 (.load K0 (.t 17)),
 O 60 (.bin .neq (.t 59) (.c (I 0)))] [59]) (
 .cond (.t 60) (sq (.regD [
 O 61 (.agg [(.l (K1 2) [] true), (.l (K1 3) [] true), (.l (K1 4) [] true), (I 0), (I 0), (I 0), (I 0), (I 0), (I 0), (I 0), (I 0), (I 0), (I 0), (I 0), (I 0), (I 0), (I 0), (.l (K1 19) [] true), (.l (K1 7) [] true), (.l (K1 10) [] true), (.l (K1 6) [] true), (.l (K1 7) [] true)] []),
 O 62 (.load K0 (.t 17)),
 E (.store (K1 22) (.t 10) (.t 61)),
 O 11 (.mov (.c (.l (K1 11) [] true))),
 O 12 (.mov (.t 62))] [0, 0, 1, 5, 15] [17, 62, 61]) (
 .ret))
 (.skip))) (
 sq (.regD [
 O 63 (.load (K1 22) (.t 5)),
 O 64 (.load K0 (.t 16)),
 E (.store (K1 22) (.t 10) (.t 63)),
 O 11 (.mov (.t 64)),
 O 12 (.mov (.c (I 0)))] [0, 0, 1, 7, 15] [16, 64, 5, 63]) (
 .ret)))))))))))⟩
def F790 : PF := ⟨2, [.t 4],
 sq (.reg [
 O 3 (.box K0 (.t 1)),
 O 4 (.mov (.c (I 0)))] [4, 1]) (
 sq (.reg [
 O 5 (.mov (.t 0)),
 O 6 (.mkf 871 [(.t 3)]),
 O 7 (.call 2 799 [(.t 5), (.t 6)]),
 O 4 (.mov (.t 7))] [7, 3, 6, 0, 5]) (
 .ret))⟩
def F791 : PF := ⟨2, [.t 4, .t 5],
 sq (.reg [
 O 2 (.box (K1 10) (.t 0)),
 O 3 (.box (K1 3) (.t 1)),
 O 4 (.mov (.c (I 0))),
 O 5 (.mov (.c (I 0)))] [5, 4, 1, 0]) (
 sq (sq (.reg [
 O 6 (.load (K1 10) (.t 2)),
 O 7 (.call 0 191 [(.t 6)]),
 O 8 (.bin .neq (.t 7) (.c (I 0)))] [7, 6]) (
 .cond (.t 8) (sq (.reg [
 O 4 (.mov (.c (I 0))),
 O 5 (.mov (.c (I 1)))] []) (
 .ret))
 (.skip))) (
 sq (.reg [
 O 9 (.load (K1 10) (.t 2)),
 O 10 (.load (K1 3) (.t 3)),
 O 11 (.agg [(I 0), (I 0), (I 0), (I 0), (I 0), (I 0), (I 0), (I 0), (I 0), (.s []), (.s []), (.l K0 [] true), (.l K0 [] true)] [(0, (K1 10), (.t 9)), (10, (K1 3), (.t 10))]),
 O 12 (.call 0 872 [(.t 11)]),
 O 13 (.ext (.t 12) 0),
 O 14 (.ext (.t 12) 1),
 O 4 (.mov (.t 13)),
 O 5 (.mov (.t 14))] [14, 13, 12, 11, 3, 10, 2, 9]) (
 .ret)))⟩
def L799_0 : PC :=
 sq (.reg [
 O 9 (.bin .lss (.t 8) (.t 7))] []) (
 sq (.cond (.t 9) (.skip)
 (.exit 0)) (
 sq (.block 1 (
 sq (.reg [
 O 10 (.mov (.t 8)),
 O 5 (.mov (.t 10))] [10]) (
 sq (.reg [
 O 11 (.mov (.t 1)),
 O 12 (.mov (.t 0)),
 O 13 (.mov (.t 5)),
 O 14 (.iaddr (K1 10) (.t 12) (.t 13)),
 O 15 (.load (K1 10) (.t 14)),
 O 16 (.callv (.t 11) [(.t 15)])] [15, 14, 13, 12, 11]) (
 .cond (.t 16) (sq (.reg [
 O 17 (.mov (.t 5)),
 O 4 (.mov (.t 17))] [5, 17]) (
 .ret))
 (.skip))))) (
 .reg [
 O 18 (.bin .add (.t 8) (.c (I 1))),
 O 8 (.mov (.t 18))] [18])))
def F799 : PF := ⟨2, [.t 4],
 sq (.reg [
 O 4 (.mov (.c (I 0)))] [4]) (
 sq (sq (.reg [
 O 6 (.mov (.t 0)),
 O 7 (.len false (.t 6)),
 O 8 (.mov (.c (I 0)))] [6]) (
 .block 0 (
 .loop [0, 1, 7, 8] L799_0))) (
 sq (.reg [
 O 4 (.mov (.c (I (-1))))] []) (
 .ret)))⟩
def F806 : PF := ⟨3, [.c 5 (K1 3)],
 sq (.reg [
 O 5 (.alloc (K1 3) (.a [(I 0), (I 0), (.s [])]))] []) (
 sq (.reg [
 O 6 (.mov (.t 0)),
 O 7 (.mov (.t 1)),
 O 8 (.faddr 1 (.t 2)),
 O 9 (.load K0 (.t 8)),
 O 10 (.agg [(I 0), (I 0), (.s [])] [(0, K0, (.t 6)), (1, K0, (.t 7)), (2, K0, (.t 9))]),
 E (.store (K1 3) (.t 5) (.t 10))] [10, 9, 2, 8, 1, 7, 0, 6]) (
 .ret))⟩
def L861_0 : PC :=
 sq (sq (.reg [
 O 7 (.mov (.t 3)),
 O 8 (.mov (.t 0)),
 O 9 (.len true (.t 8)),
 O 10 (.bin .lss (.t 7) (.t 9))] [9, 8, 7]) (
 .cond (.t 10) (.skip)
 (.exit 0))) (
 sq (.block 1 (
 sq (.reg [
 O 13 (.mov (.t 0)),
 O 14 (.mov (.t 3)),
 O 15 (.idxS (.t 13) (.t 14)),
 O 16 (.bin .lss (.t 15) (.c (.i .u8 65))),
 O 17 (.mov (.t 16)),
 OG 18 17 false (.mov (.t 0)),
 OG 19 17 false (.mov (.t 3)),
 OG 20 17 false (.idxS (.t 18) (.t 19)),
 OG 21 17 false (.bin .gtr (.t 20) (.c (.i .u8 90))),
 O 22 (.pick (.t 17) (.c (.b true)) (.t 21))] [21, 20, 19, 18, 17, 16, 15, 14, 13]) (
 .cond (.t 22) (sq (.reg [
 O 2 (.mov (.c (.b false)))] []) (
 .ret))
 (.skip)))) (
 .reg [
 O 11 (.mov (.t 3)),
 O 12 (.bin .add (.t 11) (.c (I 1))),
 O 3 (.mov (.t 12))] [12, 11]))
def F861 : PF := ⟨1, [.t 2],
 sq (.reg [
 O 2 (.mov (.c (.b false)))] [2]) (
 sq (sq (.reg [
 O 4 (.mov (.t 0)),
 O 5 (.len true (.t 4)),
 O 6 (.bin .neq (.t 5) (.c (I 3)))] [5, 4]) (
 .cond (.t 6) (sq (.reg [
 O 2 (.mov (.c (.b false)))] []) (
 .ret))
 (.skip))) (
 sq (sq (.reg [
 O 3 (.mov (.c (I 0)))] []) (
 .block 0 (
 .loop [0, 3] L861_0))) (
 sq (.reg [
 O 2 (.mov (.c (.b true)))] []) (
 .ret))))⟩
def L862_0 : PC :=
 sq (sq (.reg [
 O 5 (.mov (.t 3)),
 O 6 (.bin .eql (.t 5) (.c (.s []))),
 O 7 (.mov (.t 6)),
 OG 8 7 false (.mov (.t 0)),
 OG 9 7 false (.bin .gtr (.t 8) (.c (.i .u64 0))),
 O 10 (.pick (.t 7) (.c (.b true)) (.t 9))] [9, 8, 7, 6, 5]) (
 .cond (.t 10) (.skip)
 (.exit 0))) (
 .block 1 (
 sq (.reg [
 O 11 (.mov (.t 0)),
 O 12 (.bin .rem (.t 11) (.c (.i .u64 10))),
 O 4 (.mov (.t 12))] [12, 11]) (
 sq (.reg [
 O 13 (.mov (.t 4)),
 O 14 (.mov (.t 4)),
 O 15 (.bin .add (.t 14) (.c (.i .u64 1))),
 O 16 (.slS (.c (.s [48, 49, 50, 51, 52, 53, 54, 55, 56, 57])) (some (.t 13)) (some (.t 15))),
 O 17 (.mov (.t 3)),
 O 18 (.bin .add (.t 16) (.t 17)),
 O 3 (.mov (.t 18))] [18, 17, 16, 15, 14, 4, 13]) (
 .reg [
 O 19 (.mov (.t 0)),
 O 20 (.bin .quo (.t 19) (.c (.i .u64 10))),
 O 0 (.mov (.t 20))] [20, 19]))))
def F862 : PF := ⟨1, [.t 2],
 sq (.reg [
 O 2 (.mov (.c (.s [])))] [2]) (
 sq (.reg [
 O 3 (.mov (.c (.s [])))] []) (
 sq (.block 0 (
 .loop [0, 3] L862_0)) (
 sq (.reg [
 O 21 (.mov (.t 3)),
 O 2 (.mov (.t 21))] [3, 21]) (
 .ret))))⟩
def F863 : PF := ⟨2, [.t 3],
 sq (.reg [
 O 2 (.box (K1 10) (.t 0)),
 O 3 (.mov (.c (.b false)))] [3, 0]) (
 sq (.reg [
 O 4 (.faddr 4 (.t 2)),
 O 5 (.load K0 (.t 4)),
 O 6 (.load K0 (.t 1)),
 O 7 (.bin .gtr (.t 5) (.t 6)),
 O 3 (.mov (.t 7))] [7, 1, 6, 5, 2, 4]) (
 .ret))⟩
def F864 : PF := ⟨2, [.t 4],
 sq (.reg [
 O 4 (.mov (.c (I 0)))] [4]) (
 sq (sq (.reg [
 O 5 (.mov (.t 1)),
 O 6 (.call 0 377 [(.t 5)]),
 O 7 (.un .not (.t 6))] [6, 5]) (
 .cond (.t 7) (sq (.reg [
 O 4 (.mov (.c (I 0)))] []) (
 .ret))
 (.skip))) (
 sq (.reg [
 O 8 (.mov (.t 0)),
 O 9 (.call 0 109 [(.t 8)]),
 O 10 (.call 0 926 [(.t 9)]),
 O 11 (.mov (.t 1)),
 O 12 (.conv .u64 (.t 11)),
 O 13 (.bin .rem (.t 10) (.t 12)),
 O 14 (.conv .i64 (.t 13)),
 O 4 (.mov (.t 14))] [14, 13, 12, 1, 11, 10, 9, 0, 8]) (
 .ret)))⟩
def L866_0 : PC :=
 sq (sq (.reg [
 O 9 (.mov (.t 6)),
 O 10 (.bin .geq (.t 9) (.c (I 0))),
 O 11 (.mov (.t 10)),
 OG 12 11 true (.mov (.t 6)),
 OG 13 11 true (.mov (.t 1)),
 OG 14 11 true (.bin .leq (.t 12) (.t 13)),
 O 15 (.pick (.t 11) (.t 14) (.c (.b false)))] [14, 13, 12, 11, 10, 9]) (
 .cond (.t 15) (.skip)
 (.exit 0))) (
 sq (.block 1 (
 sq (.reg [
 O 19 (.mov (.t 2)),
 O 20 (.mov (.t 6)),
 O 21 (.callv (.t 19) [(.t 20)]),
 O 22 (.un .not (.t 21))] [21, 20, 19]) (
 .cond (.t 22) (.ret)
 (.skip)))) (
 .reg [
 O 16 (.mov (.t 6)),
 O 17 (.bin .add (.t 16) (.c (I 1))),
 O 18 (.call 0 787 [(.t 17)]),
 O 6 (.mov (.t 18))] [18, 17, 16]))
def F866 : PF := ⟨3, [],
 sq (.reg [
 O 7 (.mov (.t 0)),
 O 8 (.call 0 787 [(.t 7)]),
 O 6 (.mov (.t 8))] [8, 0, 7]) (
 .block 0 (
 .loop [1, 2, 6] L866_0))⟩
def F867 : PF := ⟨6, [.t 7],
 sq (.reg [
 O 7 (.mov (.c (.b false)))] [7]) (
 sq (.reg [
 O 12 (.load (K1 22) (.t 1)),
 O 13 (.load K0 (.t 2)),
 O 14 (.mov (.t 0)),
 O 15 (.call 0 24 [(.t 12), (.t 13), (.t 14)]),
 O 11 (.mov (.t 15)),
 O 16 (.ext (.t 11) 0),
 O 17 (.ext (.t 11) 1),
 O 8 (.alloc (K1 19) (.a [(.s []), (.s []), (.s []), (I 0), (I 0), (I 0), (I 0), (.l (K1 2) [] true), (.b false), (I 0), (I 0), (.b false), (.l (K1 2) [] true), (.b false), (I 0), (I 0), (.b false), (.l (K1 10) [] true), (.l (K1 6) [] true)])),
 E (.store (K1 19) (.t 8) (.t 16)),
 O 9 (.mov (.t 17))] [17, 16, 11, 15, 14, 13, 12]) (
 sq (sq (.reg [
 O 18 (.mov (.t 9)),
 O 19 (.un .not (.t 18)),
 O 20 (.mov (.t 19)),
 OG 21 20 false (.faddr 4 (.t 8)),
 OG 22 20 false (.load K0 (.t 21)),
 OG 23 20 false (.mov (.t 0)),
 OG 24 20 false (.call 0 868 [(.t 22), (.t 23)]),
 OG 25 20 false (.un .not (.t 24)),
 O 26 (.pick (.t 20) (.c (.b true)) (.t 25))] [25, 24, 23, 22, 8, 21, 20, 19, 9, 18]) (
 .cond (.t 26) (sq (.reg [
 O 7 (.mov (.c (.b true)))] []) (
 .ret))
 (.skip))) (
 sq (.reg [
 O 10 (.alloc (K1 11) (.a [(I 0), (I 0), (I 0), (I 0), (I 0), (I 0), (I 0), (I 0), (.i .u64 0), (I 0), (.i .u64 0)]))] []) (
 sq (sq (.reg [
 O 28 (.load (K1 22) (.t 1)),
 O 29 (.load K0 (.t 3)),
 O 30 (.load K0 (.t 2)),
 O 31 (.mov (.t 0)),
 O 32 (.load K0 (.t 4)),
 O 33 (.call 0 869 [(.t 28), (.t 29), (.t 30), (.t 31), (.t 32)]),
 O 27 (.mov (.t 33)),
 O 34 (.ext (.t 27) 0),
 O 35 (.ext (.t 27) 1),
 O 36 (.ext (.t 27) 2),
 E (.store (K1 22) (.t 1) (.t 34)),
 E (.store (K1 11) (.t 10) (.t 35)),
 E (.store K0 (.t 5) (.t 36))] [36, 35, 34, 27, 33, 4, 32, 0, 31, 2, 30, 29, 1, 28]) (
 sq (.reg [
 O 37 (.load K0 (.t 5)),
 O 38 (.bin .eql (.t 37) (.c (I 0)))] [37]) (
 .cond (.t 38) (.reg [
 O 39 (.load K0 (.t 3)),
 O 40 (.load (K1 11) (.t 10)),
 O 41 (.bsl (K1 11) (.a [(I 0), (I 0), (I 0), (I 0), (I 0), (I 0), (I 0), (I 0), (.i .u64 0), (I 0), (.i .u64 0)]) 1 [(0, (.t 40))]),
 O 42 (.app (K1 11) 88 (.t 39) (.t 41)),
 E (.store K0 (.t 3) (.t 42))] [42, 41, 10, 40, 3, 39])
 (.skip)))) (
 sq (.reg [
 O 43 (.load K0 (.t 5)),
 O 44 (.bin .eql (.t 43) (.c (I 0))),
 O 7 (.mov (.t 44))] [44, 5, 43]) (
 .ret))))))⟩
def F868 : PF := ⟨2, [.t 4],
 sq (.reg [
 O 4 (.mov (.c (.b false)))] [4]) (
 sq (.reg [
 O 9 (.mov (.t 1)),
 O 10 (.call 0 65 [(.t 9)]),
 O 8 (.mov (.t 10)),
 O 11 (.ext (.t 8) 0),
 O 12 (.ext (.t 8) 1),
 O 13 (.ext (.t 8) 2),
 O 5 (.mov (.t 11)),
 O 6 (.mov (.t 12)),
 O 7 (.mov (.t 13))] [7, 5, 13, 12, 11, 8, 10, 1, 9]) (
 sq (.reg [
 O 14 (.mov (.t 0)),
 O 15 (.bin .geq (.t 14) (.c (I 1))),
 O 16 (.mov (.t 15)),
 OG 17 16 true (.mov (.t 0)),
 OG 18 16 true (.bin .leq (.t 17) (.c (I 12))),
 O 19 (.pick (.t 16) (.t 18) (.c (.b false))),
 O 20 (.mov (.t 19)),
 OG 21 20 true (.mov (.t 6)),
 OG 22 20 true (.mov (.t 0)),
 OG 23 20 true (.bin .rem (.t 21) (.t 22)),
 OG 24 20 true (.bin .eql (.t 23) (.c (I 0))),
 O 25 (.pick (.t 20) (.t 24) (.c (.b false))),
 O 4 (.mov (.t 25))] [25, 24, 23, 22, 6, 21, 20, 19, 18, 17, 16, 15, 0, 14]) (
 .ret)))⟩
def F869 : PF := ⟨5, [.c 10 (K1 22), .c 11 (K1 11), .t 12],
 sq (.reg [
 O 5 (.box (K1 22) (.t 0)),
 O 10 (.alloc (K1 22) (.a [(.l (K1 2) [] true), (.l (K1 3) [] true), (.l (K1 4) [] true), (I 0), (I 0), (I 0), (I 0), (I 0), (I 0), (I 0), (I 0), (I 0), (I 0), (I 0), (I 0), (I 0), (I 0), (.l (K1 19) [] true), (.l (K1 7) [] true), (.l (K1 10) [] true), (.l (K1 6) [] true), (.l (K1 7) [] true)])),
 O 11 (.alloc (K1 11) (.a [(I 0), (I 0), (I 0), (I 0), (I 0), (I 0), (I 0), (I 0), (.i .u64 0), (I 0), (.i .u64 0)])),
 O 12 (.mov (.c (I 0)))] [12, 0]) (
 sq (.reg [
 O 18 (.load (K1 22) (.t 5)),
 O 19 (.mov (.t 1)),
 O 20 (.mov (.t 2)),
 O 21 (.mov (.t 3)),
 O 22 (.call 0 20 [(.t 18), (.t 19), (.t 20), (.t 21)]),
 O 17 (.mov (.t 22)),
 O 23 (.ext (.t 17) 0),
 O 24 (.ext (.t 17) 1),
 O 13 (.alloc (K1 11) (.a [(I 0), (I 0), (I 0), (I 0), (I 0), (I 0), (I 0), (I 0), (.i .u64 0), (I 0), (.i .u64 0)])),
 E (.store (K1 11) (.t 13) (.t 23)),
 O 14 (.mov (.t 24))] [24, 23, 17, 22, 3, 21, 2, 20, 1, 19, 18]) (
 sq (sq (.reg [
 O 25 (.mov (.t 14)),
 O 26 (.bin .neq (.t 25) (.c (I 0)))] [25]) (
 .cond (.t 26) (sq (.regD [
 O 27 (.load (K1 22) (.t 5)),
 O 28 (.load (K1 11) (.t 13)),
 O 29 (.mov (.t 14)),
 E (.store (K1 22) (.t 10) (.t 27)),
 E (.store (K1 11) (.t 11) (.t 28)),
 O 12 (.mov (.t 29))] [0, 0, 0, 1, 11, 31] [14, 29, 13, 28, 5, 27]) (
 .ret))
 (.skip))) (
 sq (sq (.reg [
 O 31 (.load (K1 22) (.t 5)),
 O 32 (.agg [(I 0), (I 0), (I 0), (I 0), (I 0), (I 0), (I 0), (I 0), (.i .u64 0), (I 0), (.i .u64 0)] []),
 O 33 (.load (K1 11) (.t 13)),
 O 34 (.mov (.t 4)),
 O 35 (.call 0 727 [(.t 31), (.t 32), (.t 33), (.t 34)]),
 O 30 (.mov (.t 35)),
 O 36 (.ext (.t 30) 0),
 O 37 (.ext (.t 30) 1),
 O 15 (.alloc (K1 10) (.a [(I 0), (I 0), (I 0), (I 0), (I 0), (I 0), (.s []), (.s []), (.l (K1 3) [] true), (.i .u64 0)])),
 E (.store (K1 10) (.t 15) (.t 36)),
 O 16 (.mov (.t 37))] [37, 36, 30, 35, 4, 34, 33, 32, 31]) (
 sq (.reg [
 O 38 (.mov (.t 16))] [16]) (
 .cond (.t 38) (sq (sq (.reg [
 O 40 (.load (K1 22) (.t 5)),
 O 41 (.load (K1 10) (.t 15)),
 O 42 (.call 0 594 [(.t 40), (.t 41)]),
 O 39 (.mov (.t 42)),
 O 43 (.ext (.t 39) 0),
 O 44 (.ext (.t 39) 1),
 E (.store (K1 22) (.t 5) (.t 43)),
 O 14 (.mov (.t 44))] [44, 43, 39, 42, 15, 41, 40]) (
 sq (.reg [
 O 45 (.mov (.t 14)),
 O 46 (.bin .neq (.t 45) (.c (I 0)))] [45]) (
 .cond (.t 46) (sq (.regD [
 O 47 (.load (K1 22) (.t 5)),
 O 48 (.load (K1 11) (.t 13)),
 O 49 (.mov (.t 14)),
 E (.store (K1 22) (.t 10) (.t 47)),
 E (.store (K1 11) (.t 11) (.t 48)),
 O 12 (.mov (.t 49))] [0, 0, 0, 1, 11, 31] [14, 49, 13, 48, 5, 47]) (
 .ret))
 (.skip)))) (
 .reg [
 O 50 (.faddr 6 (.t 13)),
 E (.store K0 (.t 50) (.c (I 1)))] [50]))
 (.skip)))) (
 sq (.regD [
 O 51 (.load (K1 22) (.t 5)),
 O 52 (.load (K1 11) (.t 13)),
 E (.store (K1 22) (.t 10) (.t 51)),
 E (.store (K1 11) (.t 11) (.t 52)),
 O 12 (.mov (.c (I 0)))] [0, 0, 1, 7, 15] [13, 52, 5, 51]) (
 .ret)))))⟩
def F871 : PF := ⟨2, [.t 3],
 sq (.reg [
 O 2 (.box (K1 10) (.t 0)),
 O 3 (.mov (.c (.b false)))] [3, 0]) (
 sq (.reg [
 O 4 (.faddr 0 (.t 2)),
 O 5 (.load K0 (.t 4)),
 O 6 (.load K0 (.t 1)),
 O 7 (.bin .eql (.t 5) (.t 6)),
 O 3 (.mov (.t 7))] [7, 1, 6, 5, 2, 4]) (
 .ret))⟩
def F872 : PF := ⟨1, [.t 2, .t 3],
 sq (.reg [
 O 1 (.box (K1 13) (.t 0)),
 O 2 (.mov (.c (I 0))),
 O 3 (.mov (.c (I 0)))] [3, 2, 0]) (
 sq (sq (.reg [
 O 6 (.faddr 0 (.t 1)),
 O 7 (.faddr 5 (.t 6)),
 O 8 (.load K0 (.t 7)),
 O 9 (.bin .eql (.t 8) (.c (I 0)))] [8, 7, 6]) (
 .cond (.t 9) (sq (.reg [
 O 2 (.mov (.c (I 0))),
 O 3 (.mov (.c (I 23)))] []) (
 .ret))
 (.skip))) (
 sq (.reg [
 O 11 (.faddr 0 (.t 1)),
 O 12 (.faddr 4 (.t 11)),
 O 13 (.load K0 (.t 12)),
 O 14 (.faddr 0 (.t 1)),
 O 15 (.faddr 5 (.t 14)),
 O 16 (.load K0 (.t 15)),
 O 17 (.faddr 0 (.t 1)),
 O 18 (.faddr 6 (.t 17)),
 O 19 (.load K0 (.t 18)),
 O 20 (.call 0 893 [(.t 13), (.t 16), (.t 19)]),
 O 10 (.mov (.t 20)),
 O 21 (.ext (.t 10) 0),
 O 22 (.ext (.t 10) 1),
 O 4 (.mov (.t 21)),
 O 5 (.mov (.t 22))] [22, 21, 10, 20, 19, 18, 17, 16, 15, 14, 13, 12, 11]) (
 sq (sq (.reg [
 O 23 (.mov (.t 5)),
 O 24 (.bin .neq (.t 23) (.c (I 0)))] [5, 23]) (
 .cond (.t 24) (sq (.reg [
 O 2 (.mov (.c (I 0))),
 O 3 (.mov (.c (I 23)))] []) (
 .ret))
 (.skip))) (
 sq (.reg [
 O 25 (.load (K1 13) (.t 1)),
 O 26 (.mov (.t 4)),
 O 27 (.call 0 930 [(.t 25), (.t 26)]),
 O 4 (.mov (.t 27))] [27, 26, 25]) (
 sq (sq (.reg [
 O 28 (.mov (.t 4)),
 O 29 (.faddr 0 (.t 1)),
 O 30 (.faddr 7 (.t 29)),
 O 31 (.load K0 (.t 30)),
 O 32 (.bin .gtr (.t 28) (.t 31))] [31, 30, 1, 29, 28]) (
 .cond (.t 32) (sq (.reg [
 O 2 (.mov (.c (I 0))),
 O 3 (.mov (.c (I 23)))] []) (
 .ret))
 (.skip))) (
 sq (.reg [
 O 33 (.mov (.t 4)),
 O 2 (.mov (.t 33)),
 O 3 (.mov (.c (I 0)))] [4, 33]) (
 .ret)))))))⟩
def F893 : PF := ⟨3, [.t 6, .t 7],
 sq (.reg [
 O 6 (.mov (.c (I 0))),
 O 7 (.mov (.c (I 0)))] [7, 6]) (
 sq (sq (.reg [
 O 12 (.mov (.t 0)),
 O 13 (.call 0 22 [(.t 12)]),
 O 14 (.un .not (.t 13)),
 O 15 (.mov (.t 14)),
 OG 16 15 false (.mov (.t 1)),
 OG 17 15 false (.bin .lss (.t 16) (.c (I (-2400)))),
 O 18 (.pick (.t 15) (.c (.b true)) (.t 17)),
 O 19 (.mov (.t 18)),
 OG 20 19 false (.mov (.t 1)),
 OG 21 19 false (.bin .gtr (.t 20) (.c (I 2400))),
 O 22 (.pick (.t 19) (.c (.b true)) (.t 21)),
 O 23 (.mov (.t 22)),
 OG 24 23 false (.mov (.t 2)),
 OG 25 23 false (.bin .lss (.t 24) (.c (I 1))),
 O 26 (.pick (.t 23) (.c (.b true)) (.t 25)),
 O 27 (.mov (.t 26)),
 OG 28 27 false (.mov (.t 2)),
 OG 29 27 false (.bin .gtr (.t 28) (.c (I 31))),
 O 30 (.pick (.t 27) (.c (.b true)) (.t 29))] [29, 28, 27, 26, 25, 24, 23, 22, 21, 20, 19, 18, 17, 16, 15, 14, 13, 12]) (
 .cond (.t 30) (sq (.reg [
 O 6 (.mov (.c (I 0))),
 O 7 (.mov (.c (I 1)))] []) (
 .ret))
 (.skip))) (
 sq (.reg [
 O 32 (.mov (.t 0)),
 O 33 (.call 0 65 [(.t 32)]),
 O 31 (.mov (.t 33)),
 O 34 (.ext (.t 31) 0),
 O 35 (.ext (.t 31) 1),
 O 36 (.ext (.t 31) 2),
 O 8 (.mov (.t 34)),
 O 9 (.mov (.t 35)),
 O 10 (.mov (.t 36))] [10, 36, 35, 34, 31, 33, 0, 32]) (
 sq (.reg [
 O 37 (.mov (.t 8)),
 O 38 (.bin .mul (.c (I 12)) (.t 37)),
 O 39 (.mov (.t 9)),
 O 40 (.bin .add (.t 38) (.t 39)),
 O 41 (.bin .sub (.t 40) (.c (I 1))),
 O 42 (.mov (.t 1)),
 O 43 (.bin .add (.t 41) (.t 42)),
 O 11 (.mov (.t 43))] [43, 1, 42, 41, 40, 9, 39, 38, 8, 37]) (
 sq (sq (.reg [
 O 44 (.mov (.t 11)),
 O 45 (.bin .lss (.t 44) (.c (I 24000))),
 O 46 (.mov (.t 45)),
 OG 47 46 false (.mov (.t 11)),
 OG 48 46 false (.bin .geq (.t 47) (.c (I 26400))),
 O 49 (.pick (.t 46) (.c (.b true)) (.t 48))] [48, 47, 46, 45, 44]) (
 .cond (.t 49) (sq (.reg [
 O 6 (.mov (.c (I 0))),
 O 7 (.mov (.c (I 1)))] []) (
 .ret))
 (.skip))) (
 sq (.reg [
 O 50 (.mov (.t 11)),
 O 51 (.bin .quo (.t 50) (.c (I 12))),
 O 52 (.mov (.t 11)),
 O 53 (.bin .rem (.t 52) (.c (I 12))),
 O 54 (.bin .add (.t 53) (.c (I 1))),
 O 8 (.mov (.t 51)),
 O 9 (.mov (.t 54))] [54, 53, 52, 51, 11, 50]) (
 sq (.reg [
 O 55 (.mov (.t 8)),
 O 56 (.mov (.t 9)),
 O 57 (.mov (.t 2)),
 O 58 (.mov (.t 8)),
 O 59 (.mov (.t 9)),
 O 60 (.call 0 72 [(.t 58), (.t 59)]),
 O 61 (.minmax false [(.t 57), (.t 60)]),
 O 62 (.call 0 933 [(.t 55), (.t 56), (.t 61)]),
 O 63 (.ext (.t 62) 0),
 O 64 (.ext (.t 62) 1),
 O 6 (.mov (.t 63)),
 O 7 (.mov (.t 64))] [64, 63, 62, 61, 60, 59, 58, 2, 57, 9, 56, 8, 55]) (
 .ret)))))))⟩
def F894 : PF := ⟨3, [.t 6, .t 7],
 sq (.reg [
 O 3 (.box (K1 3) (.t 0)),
 O 6 (.mov (.c (I 0))),
 O 7 (.mov (.c (I 0)))] [7, 6, 0]) (
 sq (sq (.reg [
 O 10 (.mov (.t 1)),
 O 11 (.call 0 22 [(.t 10)]),
 O 12 (.un .not (.t 11))] [11, 10]) (
 .cond (.t 12) (sq (.reg [
 O 6 (.mov (.c (I 0))),
 O 7 (.mov (.c (I 1)))] []) (
 .ret))
 (.skip))) (
 sq (sq (.reg [
 O 13 (.mov (.t 2))] [2]) (
 .block 0 (
 sq (.reg [
 O 15 (.bin .eql (.t 13) (.c (I 0))),
 O 14 (.mov (.t 15))] [15]) (
 .cond (.t 14) (sq (.reg [
 O 16 (.mov (.t 1)),
 O 6 (.mov (.t 16)),
 O 7 (.mov (.c (I 0)))] [1, 16]) (
 .ret))
 (sq (.reg [
 O 18 (.bin .eql (.t 13) (.c (I 1))),
 O 17 (.mov (.t 18))] [18]) (
 .cond (.t 17) (sq (.reg [
 O 19 (.load (K1 3) (.t 3)),
 O 20 (.mov (.t 1)),
 O 21 (.call 0 287 [(.t 19), (.t 20)]),
 O 22 (.ext (.t 21) 0),
 O 23 (.ext (.t 21) 1),
 O 6 (.mov (.t 22)),
 O 7 (.mov (.t 23))] [23, 22, 21, 1, 20, 3, 19]) (
 .ret))
 (sq (.reg [
 O 25 (.bin .eql (.t 13) (.c (I 3))),
 O 24 (.mov (.t 25))] [25]) (
 .cond (.t 24) (sq (.reg [
 O 26 (.load (K1 3) (.t 3)),
 O 27 (.mov (.t 1)),
 O 28 (.call 0 936 [(.t 26), (.t 27)]),
 O 29 (.ext (.t 28) 0),
 O 30 (.ext (.t 28) 1),
 O 6 (.mov (.t 29)),
 O 7 (.mov (.t 30))] [30, 29, 28, 1, 27, 3, 26]) (
 .ret))
 (sq (.reg [
 O 32 (.bin .eql (.t 13) (.c (I 2))),
 O 31 (.mov (.t 32))] [13, 32]) (
 .cond (.t 31) (sq (sq (.reg [
 O 34 (.load (K1 3) (.t 3)),
 O 35 (.mov (.t 1)),
 O 36 (.call 0 287 [(.t 34), (.t 35)]),
 O 33 (.mov (.t 36)),
 O 37 (.ext (.t 33) 0),
 O 38 (.ext (.t 33) 1),
 O 8 (.mov (.t 37)),
 O 9 (.mov (.t 38))] [38, 37, 33, 36, 35, 34]) (
 sq (.reg [
 O 39 (.mov (.t 9)),
 O 40 (.bin .eql (.t 39) (.c (I 0))),
 O 41 (.mov (.t 40)),
 OG 42 41 true (.mov (.t 8)),
 OG 43 41 true (.mov (.t 1)),
 OG 44 41 true (.call 0 787 [(.t 43)]),
 OG 45 41 true (.bin .leq (.t 42) (.t 44)),
 O 46 (.pick (.t 41) (.t 45) (.c (.b false)))] [45, 44, 43, 42, 41, 40, 9, 39]) (
 .cond (.t 46) (sq (.reg [
 O 47 (.mov (.t 8)),
 O 6 (.mov (.t 47)),
 O 7 (.mov (.c (I 0)))] [8, 47]) (
 .ret))
 (.skip)))) (
 sq (.reg [
 O 48 (.load (K1 3) (.t 3)),
 O 49 (.mov (.t 1)),
 O 50 (.call 0 936 [(.t 48), (.t 49)]),
 O 51 (.ext (.t 50) 0),
 O 52 (.ext (.t 50) 1),
 O 6 (.mov (.t 51)),
 O 7 (.mov (.t 52))] [52, 51, 50, 1, 49, 3, 48]) (
 .ret)))
 (.skip))))))))))) (
 sq (.reg [
 O 6 (.mov (.c (I 0))),
 O 7 (.mov (.c (I 1)))] []) (
 .ret))))⟩
def F926 : PF := ⟨1, [.t 2],
 sq (.reg [
 O 2 (.mov (.c (.i .u64 0)))] [2]) (
 sq (.reg [
 O 3 (.mov (.t 0)),
 O 4 (.call 0 374 [(.c (.i .u64 14695981039346656037)), (.t 3)]),
 O 2 (.mov (.t 4))] [4, 0, 3]) (
 .ret))⟩
def F930 : PF := ⟨2, [.t 4],
 sq (.reg [
 O 2 (.box (K1 13) (.t 0)),
 O 4 (.mov (.c (I 0)))] [4, 0]) (
 sq (.reg [
 O 9 (.faddr 10 (.t 2)),
 O 10 (.load (K1 3) (.t 9)),
 O 11 (.mov (.t 1)),
 O 12 (.call 0 894 [(.t 10), (.t 11), (.c (I 2))]),
 O 8 (.mov (.t 12)),
 O 13 (.ext (.t 8) 0),
 O 14 (.ext (.t 8) 1),
 O 5 (.mov (.t 13)),
 O 6 (.mov (.t 14))] [14, 13, 8, 12, 11, 10, 2, 9]) (
 sq (.reg [
 O 15 (.mov (.t 1)),
 O 16 (.call 0 787 [(.t 15)]),
 O 7 (.mov (.t 16))] [16, 15]) (
 sq (sq (.reg [
 O 17 (.mov (.t 6)),
 O 18 (.bin .neq (.t 17) (.c (I 0))),
 O 19 (.mov (.t 18)),
 OG 20 19 false (.mov (.t 5)),
 OG 21 19 false (.mov (.t 7)),
 OG 22 19 false (.bin .gtr (.t 20) (.t 21)),
 O 23 (.pick (.t 19) (.c (.b true)) (.t 22)),
 O 24 (.mov (.t 23)),
 OG 25 24 false (.mov (.t 5)),
 OG 26 24 false (.call 0 787 [(.t 25)]),
 OG 27 24 false (.mov (.t 7)),
 OG 28 24 false (.bin .neq (.t 26) (.t 27)),
 O 29 (.pick (.t 24) (.c (.b true)) (.t 28))] [28, 27, 26, 25, 24, 23, 22, 7, 21, 20, 19, 18, 6, 17]) (
 .cond (.t 29) (sq (.reg [
 O 30 (.mov (.t 1)),
 O 4 (.mov (.t 30))] [1, 30]) (
 .ret))
 (.skip))) (
 sq (.reg [
 O 31 (.mov (.t 5)),
 O 4 (.mov (.t 31))] [5, 31]) (
 .ret)))))⟩
def L933_0 : PC :=
 sq (sq (.reg [
 O 40 (.mov (.t 9)),
 O 41 (.mov (.t 1)),
 O 42 (.bin .lss (.t 40) (.t 41))] [41, 40]) (
 .cond (.t 42) (.skip)
 (.exit 0))) (
 sq (.block 1 (
 .reg [
 O 45 (.mov (.t 8)),
 O 46 (.mov (.t 0)),
 O 47 (.mov (.t 9)),
 O 48 (.call 0 72 [(.t 46), (.t 47)]),
 O 49 (.bin .add (.t 45) (.t 48)),
 O 8 (.mov (.t 49))] [49, 48, 47, 46, 45])) (
 .reg [
 O 43 (.mov (.t 9)),
 O 44 (.bin .add (.t 43) (.c (I 1))),
 O 9 (.mov (.t 44))] [44, 43]))
def F933 : PF := ⟨3, [.t 6, .t 7],
 sq (.reg [
 O 6 (.mov (.c (I 0))),
 O 7 (.mov (.c (I 0)))] [7, 6]) (
 sq (sq (.reg [
 O 10 (.mov (.t 0)),
 O 11 (.bin .lss (.t 10) (.c (I 2000))),
 O 12 (.mov (.t 11)),
 OG 13 12 false (.mov (.t 0)),
 OG 14 12 false (.bin .gtr (.t 13) (.c (I 2199))),
 O 15 (.pick (.t 12) (.c (.b true)) (.t 14)),
 O 16 (.mov (.t 15)),
 OG 17 16 false (.mov (.t 1)),
 OG 18 16 false (.bin .lss (.t 17) (.c (I 1))),
 O 19 (.pick (.t 16) (.c (.b true)) (.t 18)),
 O 20 (.mov (.t 19)),
 OG 21 20 false (.mov (.t 1)),
 OG 22 20 false (.bin .gtr (.t 21) (.c (I 12))),
 O 23 (.pick (.t 20) (.c (.b true)) (.t 22)),
 O 24 (.mov (.t 23)),
 OG 25 24 false (.mov (.t 2)),
 OG 26 24 false (.bin .lss (.t 25) (.c (I 1))),
 O 27 (.pick (.t 24) (.c (.b true)) (.t 26)),
 O 28 (.mov (.t 27)),
 OG 29 28 false (.mov (.t 2)),
 OG 30 28 false (.mov (.t 0)),
 OG 31 28 false (.mov (.t 1)),
 OG 32 28 false (.call 0 72 [(.t 30), (.t 31)]),
 OG 33 28 false (.bin .gtr (.t 29) (.t 32)),
 O 34 (.pick (.t 28) (.c (.b true)) (.t 33))] [33, 32, 31, 30, 29, 28, 27, 26, 25, 24, 23, 22, 21, 20, 19, 18, 17, 16, 15, 14, 13, 12, 11, 10]) (
 .cond (.t 34) (sq (.reg [
 O 6 (.mov (.c (I 0))),
 O 7 (.mov (.c (I 1)))] []) (
 .ret))
 (.skip))) (
 sq (.reg [
 O 35 (.mov (.t 0)),
 O 36 (.call 0 71 [(.t 35)]),
 O 37 (.mov (.t 2)),
 O 38 (.bin .add (.t 36) (.t 37)),
 O 39 (.bin .sub (.t 38) (.c (I 1))),
 O 8 (.mov (.t 39))] [39, 38, 2, 37, 36, 35]) (
 sq (sq (.reg [
 O 9 (.mov (.c (I 1)))] []) (
 .block 0 (
 .loop [0, 1, 8, 9] L933_0))) (
 sq (.reg [
 O 50 (.mov (.t 8)),
 O 6 (.mov (.t 50)),
 O 7 (.mov (.c (I 0)))] [8, 50]) (
 .ret)))))⟩
def F1008 : PF := ⟨3, [.t 6],
 sq (.reg [
 O 4 (.box (K1 2) (.t 1)),
 O 6 (.mov (.c (.b false)))] [6, 1]) (
 sq (.regD [
 O 7 (.mov (.t 0)),
 O 8 (.load (K1 2) (.t 4)),
 O 9 (.mov (.t 2)),
 O 10 (.call 0 781 [(.t 7), (.t 8), (.t 9)]),
 O 11 (.mov (.t 0)),
 O 12 (.load (K1 2) (.t 4)),
 O 13 (.mov (.t 2)),
 O 14 (.call 0 1009 [(.t 11), (.t 12), (.t 13)]),
 O 15 (.bin .eql (.t 10) (.t 14)),
 O 16 (.mov (.t 15)),
 OG 17 16 true (.call 0 1010 []),
 O 18 (.pick (.t 16) (.t 17) (.c (.b false))),
 O 6 (.mov (.t 18))] [0, 0, 0, 7, 0, 0, 0, 127, 255, 511, 1023, 2047, 4095] [18, 17, 16, 15, 14, 13, 12, 11, 10, 2, 9, 4, 8, 0, 7]) (
 .ret))⟩
def F1009 : PF := ⟨3, [.t 6],
 sq (.reg [
 O 4 (.box (K1 2) (.t 1)),
 O 6 (.mov (.c (.s [])))] [6, 1]) (
 sq (.reg [
 O 7 (.mov (.t 0)),
 O 8 (.load (K1 2) (.t 4)),
 O 9 (.call 0 1011 [(.t 7), (.t 8)]),
 O 10 (.mov (.t 2)),
 O 11 (.call 0 517 [(.t 10)]),
 O 12 (.bin .add (.t 9) (.t 11)),
 O 6 (.mov (.t 12))] [12, 11, 2, 10, 9, 4, 8, 0, 7]) (
 .ret))⟩
def F1010 : PF := ⟨0, [.t 0],
 sq (.reg [
 O 0 (.mov (.c (.b false)))] [0]) (
 sq (.reg [
 O 11 (.call 0 1012 []),
 O 1 (.alloc (K1 42) (.a [(I 0), (I 0), (.s []), (.l (K1 2) [] true), (.l (K1 3) [] true), (.l (K1 4) [] true), (I 0), (I 0), (I 0), (I 0), (I 0), (I 0), (I 0), (I 0), (I 0), (I 0), (I 0), (I 0), (I 0), (I 0), (.l (K1 19) [] true), (.l (K1 7) [] true), (.l (K1 10) [] true), (.l (K1 6) [] true), (.l (K1 7) [] true), (.l (K1 11) [] true), (.l (K1 25) [] true), (.l (K1 10) [] true), (.l (K1 7) [] true), (.l (K1 9) [] true), (.l (K1 7) [] true), (.l (K1 7) [] true), (.l (K1 3) [] true), (.l (K1 35) [] true), (.l (K1 5) [] true), (.b false), (I 0), (I 0), (I 0), (I 0), (.l (K1 3) [] true), (.l (K1 3) [] true)])),
 E (.store (K1 42) (.t 1) (.t 11))] [11]) (
 sq (.reg [
 O 12 (.agg [(I 0), (I 0)] [(0, K0, (.c (I 2)))]),
 O 2 (.alloc (K1 2) (.a [(I 0), (I 0)])),
 E (.store (K1 2) (.t 2) (.t 12))] [12]) (
 sq (.reg [
 O 14 (.load (K1 42) (.t 1)),
 O 15 (.load (K1 2) (.t 2)),
 O 16 (.call 0 564 [(.t 14), (.t 15)]),
 O 13 (.mov (.t 16)),
 O 17 (.ext (.t 13) 0),
 O 18 (.ext (.t 13) 1),
 O 3 (.mov (.t 17)),
 O 4 (.mov (.t 18))] [18, 17, 13, 16, 15, 14]) (
 sq (sq (.reg [
 O 19 (.mov (.t 4)),
 O 20 (.bin .neq (.t 19) (.c (I 0))),
 O 21 (.mov (.t 20)),
 OG 22 21 false (.mov (.t 3)),
 OG 23 21 false (.len false (.t 22)),
 OG 24 21 false (.bin .neq (.t 23) (.c (I 1))),
 O 25 (.pick (.t 21) (.c (.b true)) (.t 24)),
 O 26 (.mov (.t 25)),
 OG 27 26 false (.mov (.t 3)),
 OG 28 26 false (.iaddr (K1 10) (.t 27) (.c (I 0))),
 OG 29 26 false (.faddr 8 (.t 28)),
 OG 30 26 false (.load K0 (.t 29)),
 OG 31 26 false (.len false (.t 30)),
 OG 32 26 false (.bin .neq (.t 31) (.c (I 2))),
 O 33 (.pick (.t 26) (.c (.b true)) (.t 32))] [32, 31, 30, 29, 28, 27, 26, 25, 24, 23, 22, 21, 20, 4, 19]) (
 .cond (.t 33) (sq (.reg [
 O 0 (.mov (.c (.b false)))] []) (
 .ret))
 (.skip))) (
 sq (.reg [
 O 35 (.load (K1 42) (.t 1)),
 O 36 (.load (K1 2) (.t 2)),
 O 37 (.bsl K0 (I 0) 1 [(0, (.c (I 0)))]),
 O 38 (.call 0 531 [(.t 35), (.t 36), (.t 37)]),
 O 34 (.mov (.t 38)),
 O 39 (.ext (.t 34) 0),
 O 40 (.ext (.t 34) 1),
 O 5 (.alloc (K1 42) (.a [(I 0), (I 0), (.s []), (.l (K1 2) [] true), (.l (K1 3) [] true), (.l (K1 4) [] true), (I 0), (I 0), (I 0), (I 0), (I 0), (I 0), (I 0), (I 0), (I 0), (I 0), (I 0), (I 0), (I 0), (I 0), (.l (K1 19) [] true), (.l (K1 7) [] true), (.l (K1 10) [] true), (.l (K1 6) [] true), (.l (K1 7) [] true), (.l (K1 11) [] true), (.l (K1 25) [] true), (.l (K1 10) [] true), (.l (K1 7) [] true), (.l (K1 9) [] true), (.l (K1 7) [] true), (.l (K1 7) [] true), (.l (K1 3) [] true), (.l (K1 35) [] true), (.l (K1 5) [] true), (.b false), (I 0), (I 0), (I 0), (I 0), (.l (K1 3) [] true), (.l (K1 3) [] true)])),
 E (.store (K1 42) (.t 5) (.t 39)),
 O 6 (.mov (.t 40))] [40, 39, 34, 38, 37, 36, 35]) (
 sq (.reg [
 O 42 (.load (K1 42) (.t 1)),
 O 43 (.load (K1 2) (.t 2)),
 O 44 (.call 0 531 [(.t 42), (.t 43), (.c (.l K0 [] true))]),
 O 41 (.mov (.t 44)),
 O 45 (.ext (.t 41) 0),
 O 46 (.ext (.t 41) 1),
 O 7 (.alloc (K1 42) (.a [(I 0), (I 0), (.s []), (.l (K1 2) [] true), (.l (K1 3) [] true), (.l (K1 4) [] true), (I 0), (I 0), (I 0), (I 0), (I 0), (I 0), (I 0), (I 0), (I 0), (I 0), (I 0), (I 0), (I 0), (I 0), (.l (K1 19) [] true), (.l (K1 7) [] true), (.l (K1 10) [] true), (.l (K1 6) [] true), (.l (K1 7) [] true), (.l (K1 11) [] true), (.l (K1 25) [] true), (.l (K1 10) [] true), (.l (K1 7) [] true), (.l (K1 9) [] true), (.l (K1 7) [] true), (.l (K1 7) [] true), (.l (K1 3) [] true), (.l (K1 35) [] true), (.l (K1 5) [] true), (.b false), (I 0), (I 0), (I 0), (I 0), (.l (K1 3) [] true), (.l (K1 3) [] true)])),
 E (.store (K1 42) (.t 7) (.t 45)),
 O 8 (.mov (.t 46))] [7, 46, 45, 41, 44, 43, 42]) (
 sq (.reg [
 O 48 (.load (K1 42) (.t 1)),
 O 49 (.agg [(I 0), (I 0)] [(0, K0, (.c (I 6)))]),
 O 50 (.call 0 564 [(.t 48), (.t 49)]),
 O 47 (.mov (.t 50)),
 O 51 (.ext (.t 47) 0),
 O 52 (.ext (.t 47) 1),
 O 9 (.mov (.t 51)),
 O 10 (.mov (.t 52))] [52, 51, 47, 50, 49, 48]) (
 sq (sq (.reg [
 O 53 (.faddr 27 (.t 5)),
 O 54 (.load K0 (.t 53)),
 O 55 (.len false (.t 54)),
 O 56 (.bin .neq (.t 55) (.c (I 1))),
 O 57 (.mov (.t 56)),
 OG 58 57 false (.mov (.t 9)),
 OG 59 57 false (.len false (.t 58)),
 OG 60 57 false (.bin .neq (.t 59) (.c (I 1))),
 O 61 (.pick (.t 57) (.c (.b true)) (.t 60))] [60, 59, 58, 57, 56, 55, 54, 53]) (
 .cond (.t 61) (sq (.reg [
 O 0 (.mov (.c (.b false)))] []) (
 .ret))
 (.skip))) (
 sq (.reg [
 O 62 (.agg [(I 0), (I 0)] [(0, K0, (.c (I 2))), (1, K0, (.c (I 1)))]),
 O 63 (.call 0 781 [(.c (I 9717)), (.t 62), (.c (I 0))]),
 O 64 (.bin .eql (.t 63) (.c (.s [101, 111, 100, 47, 57, 55, 49, 55, 47, 50, 47, 49, 47, 48]))),
 O 65 (.mov (.t 64)),
 OG 66 65 true (.mov (.t 3)),
 OG 67 65 true (.iaddr (K1 10) (.t 66) (.c (I 0))),
 OG 68 65 true (.faddr 6 (.t 67)),
 OG 69 65 true (.load K0 (.t 68)),
 OG 70 65 true (.bin .eql (.t 69) (.c (.s [101, 111, 100, 47, 57, 55, 48, 56, 47, 50, 47, 48, 47, 48]))),
 O 71 (.pick (.t 65) (.t 70) (.c (.b false))),
 O 72 (.mov (.t 71)),
 OG 73 72 true (.mov (.t 3)),
 OG 74 72 true (.iaddr (K1 10) (.t 73) (.c (I 0))),
 OG 75 72 true (.faddr 8 (.t 74)),
 OG 76 72 true (.load K0 (.t 75)),
 OG 77 72 true (.iaddr (K1 3) (.t 76) (.c (I 0))),
 OG 78 72 true (.load (K1 3) (.t 77)),
 OG 79 72 true (.agg [(I 0), (I 0), (.s [])] [(0, K0, (.c (I 1000))), (1, K0, (.c (I 300))), (2, K0, (.c (.s [69, 85, 82])))]),
 OG 80 72 true (.eqv false [1, 1, 3] (.t 78) (.t 79)),
 O 81 (.pick (.t 72) (.t 80) (.c (.b false))),
 O 82 (.mov (.t 81)),
 OG 83 82 true (.mov (.t 6)),
 OG 84 82 true (.bin .eql (.t 83) (.c (I 0))),
 O 85 (.pick (.t 82) (.t 84) (.c (.b false))),
 O 86 (.mov (.t 85)),
 OG 87 86 true (.mov (.t 8)),
 OG 88 86 true (.bin .eql (.t 87) (.c (I 1))),
 O 89 (.pick (.t 86) (.t 88) (.c (.b false))),
 O 90 (.mov (.t 89)),
 OG 91 90 true (.faddr 35 (.t 5)),
 OG 92 90 true (.faddr 1 (.t 91)),
 OG 93 90 true (.load K0 (.t 92)),
 OG 94 90 true (.bin .eql (.t 93) (.c (I 1))),
 O 95 (.pick (.t 90) (.t 94) (.c (.b false))),
 O 96 (.mov (.t 95)),
 OG 97 96 true (.faddr 27 (.t 5)),
 OG 98 96 true (.load K0 (.t 97)),
 OG 99 96 true (.iaddr (K1 10) (.t 98) (.c (I 0))),
 OG 100 96 true (.faddr 4 (.t 99)),
 OG 101 96 true (.load K0 (.t 100)),
 OG 102 96 true (.bin .gtr (.t 101) (.c (I 9708))),
 O 103 (.pick (.t 96) (.t 102) (.c (.b false))),
 O 104 (.mov (.t 103)),
 OG 105 104 true (.mov (.t 10)),
 OG 106 104 true (.bin .eql (.t 105) (.c (I 0))),
 O 107 (.pick (.t 104) (.t 106) (.c (.b false))),
 O 108 (.mov (.t 107)),
 OG 109 108 true (.mov (.t 9)),
 OG 110 108 true (.iaddr (K1 10) (.t 109) (.c (I 0))),
 OG 111 108 true (.faddr 3 (.t 110)),
 OG 112 108 true (.load K0 (.t 111)),
 OG 113 108 true (.bin .eql (.t 112) (.c (I 4))),
 O 114 (.pick (.t 108) (.t 113) (.c (.b false))),
 O 115 (.mov (.t 114)),
 OG 116 115 true (.mov (.t 9)),
 OG 117 115 true (.iaddr (K1 10) (.t 116) (.c (I 0))),
 OG 118 115 true (.faddr 2 (.t 117)),
 OG 119 115 true (.load K0 (.t 118)),
 OG 120 115 true (.bin .eql (.t 119) (.c (I 9709))),
 O 121 (.pick (.t 115) (.t 120) (.c (.b false))),
 O 122 (.mov (.t 121)),
 OG 123 122 true (.mov (.t 9)),
 OG 124 122 true (.iaddr (K1 10) (.t 123) (.c (I 0))),
 OG 125 122 true (.faddr 5 (.t 124)),
 OG 126 122 true (.load K0 (.t 125)),
 OG 127 122 true (.bin .eql (.t 126) (.c (I 9708))),
 O 128 (.pick (.t 122) (.t 127) (.c (.b false))),
 O 129 (.mov (.t 128)),
 OG 130 129 true (.load (K1 42) (.t 1)),
 OG 131 129 true (.load (K1 2) (.t 2)),
 OG 132 129 true (.call 0 528 [(.t 130), (.t 131)]),
 OG 133 129 true (.field 19 K0 (.t 132)),
 OG 134 129 true (.len false (.t 133)),
 OG 135 129 true (.bin .eql (.t 134) (.c (I 1))),
 O 136 (.pick (.t 129) (.t 135) (.c (.b false))),
 O 0 (.mov (.t 136))] [136, 135, 134, 133, 132, 2, 131, 1, 130, 129, 128, 127, 126, 125, 124, 123, 122, 121, 120, 119, 118, 117, 116, 115, 114, 113, 112, 111, 110, 9, 109, 108, 107, 106, 10, 105, 104, 103, 102, 101, 100, 99, 98, 97, 96, 95, 94, 93, 92, 5, 91, 90, 89, 88, 8, 87, 86, 85, 84, 6, 83, 82, 81, 80, 79, 78, 77, 76, 75, 74, 73, 72, 71, 70, 69, 68, 67, 3, 66, 65, 64, 63, 62]) (
 .ret))))))))))⟩
def F1011 : PF := ⟨2, [.t 4],
 sq (.reg [
 O 3 (.box (K1 2) (.t 1)),
 O 4 (.mov (.c (.s [])))] [4, 1]) (
 sq (.regD [
 O 5 (.mov (.t 0)),
 O 6 (.call 0 517 [(.t 5)]),
 O 7 (.bin .add (.c (.s [101, 111, 100, 47])) (.t 6)),
 O 8 (.bin .add (.t 7) (.c (.s [47]))),
 O 9 (.faddr 0 (.t 3)),
 O 10 (.load K0 (.t 9)),
 O 11 (.call 0 517 [(.t 10)]),
 O 12 (.bin .add (.t 8) (.t 11)),
 O 13 (.bin .add (.t 12) (.c (.s [47]))),
 O 14 (.faddr 1 (.t 3)),
 O 15 (.load K0 (.t 14)),
 O 16 (.call 0 517 [(.t 15)]),
 O 17 (.bin .add (.t 13) (.t 16)),
 O 18 (.bin .add (.t 17) (.c (.s [47]))),
 O 4 (.mov (.t 18))] [0, 1, 3, 7, 0, 16, 51, 127, 255, 0, 512, 1651, 4095, 8191, 16383] [18, 17, 16, 15, 14, 13, 12, 11, 10, 3, 9, 8, 7, 6, 0, 5]) (
 .ret))⟩
def F1012 : PF := ⟨0, [.c 0 (K1 42)],
 sq (.reg [
 O 0 (.alloc (K1 42) (.a [(I 0), (I 0), (.s []), (.l (K1 2) [] true), (.l (K1 3) [] true), (.l (K1 4) [] true), (I 0), (I 0), (I 0), (I 0), (I 0), (I 0), (I 0), (I 0), (I 0), (I 0), (I 0), (I 0), (I 0), (I 0), (.l (K1 19) [] true), (.l (K1 7) [] true), (.l (K1 10) [] true), (.l (K1 6) [] true), (.l (K1 7) [] true), (.l (K1 11) [] true), (.l (K1 25) [] true), (.l (K1 10) [] true), (.l (K1 7) [] true), (.l (K1 9) [] true), (.l (K1 7) [] true), (.l (K1 7) [] true), (.l (K1 3) [] true), (.l (K1 35) [] true), (.l (K1 5) [] true), (.b false), (I 0), (I 0), (I 0), (I 0), (.l (K1 3) [] true), (.l (K1 3) [] true)]))] []) (
 sq (.reg [
 O 5 (.call 0 87 []),
 O 6 (.call 0 88 []),
 O 7 (.call 0 480 [(.c (I 9678)), (.c (.s [104, 111, 109, 101])), (.t 5), (.t 6)]),
 O 4 (.mov (.t 7)),
 O 8 (.ext (.t 4) 0),
 O 9 (.ext (.t 4) 1),
 O 1 (.alloc (K1 42) (.a [(I 0), (I 0), (.s []), (.l (K1 2) [] true), (.l (K1 3) [] true), (.l (K1 4) [] true), (I 0), (I 0), (I 0), (I 0), (I 0), (I 0), (I 0), (I 0), (I 0), (I 0), (I 0), (I 0), (I 0), (I 0), (.l (K1 19) [] true), (.l (K1 7) [] true), (.l (K1 10) [] true), (.l (K1 6) [] true), (.l (K1 7) [] true), (.l (K1 11) [] true), (.l (K1 25) [] true), (.l (K1 10) [] true), (.l (K1 7) [] true), (.l (K1 9) [] true), (.l (K1 7) [] true), (.l (K1 7) [] true), (.l (K1 3) [] true), (.l (K1 35) [] true), (.l (K1 5) [] true), (.b false), (I 0), (I 0), (I 0), (I 0), (.l (K1 3) [] true), (.l (K1 3) [] true)])),
 E (.store (K1 42) (.t 1) (.t 8)),
 O 2 (.mov (.t 9))] [2, 9, 8, 4, 7, 6, 5]) (
 sq (.reg [
 O 10 (.agg [(I 0), (I 0), (.s [])] [(0, K0, (.c (I 101))), (1, K0, (.c (I 100000))), (2, K0, (.c (.s [69, 85, 82])))]),
 O 11 (.agg [(I 0), (I 0), (.s [])] [(0, K0, (.c (I 1000))), (1, K0, (.c (I (-100000)))), (2, K0, (.c (.s [69, 85, 82])))]),
 O 12 (.bsl (K1 3) (.a [(I 0), (I 0), (.s [])]) 2 [(0, (.t 10)), (1, (.t 11))]),
 O 13 (.agg [(I 0), (I 0), (I 0), (I 0), (I 0), (I 0), (.s []), (.s []), (.l (K1 3) [] true), (.i .u64 0)] [(1, K0, (.c (I 9678))), (2, K0, (.c (I 9678))), (3, K0, (.c (I 1))), (6, K0, (.c (.s [107]))), (8, K0, (.t 12))]),
 O 3 (.alloc (K1 10) (.a [(I 0), (I 0), (I 0), (I 0), (I 0), (I 0), (.s []), (.s []), (.l (K1 3) [] true), (.i .u64 0)])),
 E (.store (K1 10) (.t 3) (.t 13))] [13, 12, 11, 10]) (
 sq (.reg [
 O 15 (.faddr 3 (.t 1)),
 O 16 (.load (K1 22) (.t 15)),
 O 17 (.load (K1 10) (.t 3)),
 O 18 (.call 0 1013 [(.t 16), (.t 17)]),
 O 14 (.mov (.t 18)),
 O 19 (.ext (.t 14) 0),
 O 20 (.ext (.t 14) 1),
 O 21 (.faddr 3 (.t 1)),
 E (.store (K1 22) (.t 21) (.t 19))] [21, 20, 19, 14, 18, 3, 17, 16, 15]) (
 sq (.reg [
 O 22 (.faddr 0 (.t 1)),
 E (.store K0 (.t 22) (.c (I 9708)))] [22]) (
 sq (.reg [
 O 23 (.agg [(I 0), (I 0), (I 0), (I 0), (I 0), (I 0), (I 0), (I 0), (I 0), (.s [])] [(0, K0, (.c (I 1002))), (1, K0, (.c (I 1000))), (2, K0, (.c (I 1001))), (3, K0, (.c (I 300))), (4, K0, (.c (I 9708))), (5, K0, (.c (I 1))), (6, K0, (.c (I 31))), (7, K0, (.c (I 73048))), (9, K0, (.c (.s [114, 101, 110, 116])))]),
 O 24 (.bsl (K1 10) (.a [(I 0), (I 0), (I 0), (I 0), (I 0), (I 0), (I 0), (I 0), (I 0), (.s [])]) 1 [(0, (.t 23))]),
 O 25 (.faddr 27 (.t 1)),
 E (.store K0 (.t 25) (.t 24))] [25, 24, 23]) (
 sq (.reg [
 O 26 (.faddr 1 (.t 1)),
 E (.store K0 (.t 26) (.c (I 1003)))] [26]) (
 sq (.reg [
 O 27 (.agg [(.b false), (I 0), (I 0), (I 0)] [(0, K0, (.c (.b true))), (2, K0, (.c (I 1)))]),
 O 28 (.faddr 35 (.t 1)),
 E (.store (K1 4) (.t 28) (.t 27))] [28, 27]) (
 sq (.reg [
 O 29 (.load (K1 42) (.t 1)),
 E (.store (K1 42) (.t 0) (.t 29))] [1, 29]) (
 .ret)))))))))⟩
def F1013 : PF := ⟨2, [.c 4 (K1 22), .t 5],
 sq (.reg [
 O 2 (.box (K1 22) (.t 0)),
 O 3 (.box (K1 10) (.t 1)),
 O 4 (.alloc (K1 22) (.a [(.l (K1 2) [] true), (.l (K1 3) [] true), (.l (K1 4) [] true), (I 0), (I 0), (I 0), (I 0), (I 0), (I 0), (I 0), (I 0), (I 0), (I 0), (I 0), (I 0), (I 0), (I 0), (.l (K1 19) [] true), (.l (K1 7) [] true), (.l (K1 10) [] true), (.l (K1 6) [] true), (.l (K1 7) [] true)])),
 O 5 (.mov (.c (I 0)))] [5, 1, 0]) (
 sq (.reg [
 O 9 (.load (K1 22) (.t 2)),
 O 10 (.load (K1 10) (.t 3)),
 O 11 (.call 0 1014 [(.t 9), (.t 10)]),
 O 6 (.mov (.t 11))] [11, 10, 9]) (
 sq (sq (.reg [
 O 12 (.mov (.t 6)),
 O 13 (.bin .neq (.t 12) (.c (I 0)))] [12]) (
 .cond (.t 13) (sq (.reg [
 O 14 (.agg [(.l (K1 2) [] true), (.l (K1 3) [] true), (.l (K1 4) [] true), (I 0), (I 0), (I 0), (I 0), (I 0), (I 0), (I 0), (I 0), (I 0), (I 0), (I 0), (I 0), (I 0), (I 0), (.l (K1 19) [] true), (.l (K1 7) [] true), (.l (K1 10) [] true), (.l (K1 6) [] true), (.l (K1 7) [] true)] []),
 O 15 (.mov (.t 6)),
 E (.store (K1 22) (.t 4) (.t 14)),
 O 5 (.mov (.t 15))] [6, 15, 14]) (
 .ret))
 (.skip))) (
 sq (.reg [
 O 17 (.faddr 19 (.t 2)),
 O 18 (.load K0 (.t 17)),
 O 19 (.load (K1 10) (.t 3)),
 O 20 (.call 0 1015 [(.t 18), (.t 19)]),
 O 16 (.mov (.t 20)),
 O 21 (.ext (.t 16) 0),
 O 22 (.ext (.t 16) 1),
 O 7 (.mov (.t 21)),
 O 8 (.mov (.t 22))] [8, 22, 21, 16, 20, 3, 19, 18, 17]) (
 sq (.reg [
 O 23 (.mov (.t 7)),
 O 24 (.faddr 19 (.t 2)),
 E (.store K0 (.t 24) (.t 23))] [24, 7, 23]) (
 sq (.reg [
 O 25 (.load (K1 22) (.t 2)),
 E (.store (K1 22) (.t 4) (.t 25)),
 O 5 (.mov (.c (I 0)))] [2, 25]) (
 .ret))))))⟩
def F1014 : PF := ⟨2, [.t 4],
 sq (.reg [
 O 2 (.box (K1 22) (.t 0)),
 O 3 (.box (K1 10) (.t 1)),
 O 4 (.mov (.c (I 0)))] [4, 1, 0]) (
 sq (.reg [
 O 8 (.load (K1 10) (.t 3)),
 O 9 (.call 0 679 [(.t 8)]),
 O 5 (.mov (.t 9))] [9, 8]) (
 sq (sq (.reg [
 O 10 (.mov (.t 5)),
 O 11 (.bin .neq (.t 10) (.c (I 0)))] [10]) (
 .cond (.t 11) (sq (.reg [
 O 12 (.mov (.t 5)),
 O 4 (.mov (.t 12))] [5, 12]) (
 .ret))
 (.skip))) (
 sq (.reg [
 O 14 (.faddr 19 (.t 2)),
 O 15 (.load K0 (.t 14)),
 O 16 (.faddr 6 (.t 3)),
 O 17 (.load K0 (.t 16)),
 O 18 (.call 0 1016 [(.t 15), (.t 17)]),
 O 13 (.mov (.t 18)),
 O 19 (.ext (.t 13) 0),
 O 20 (.ext (.t 13) 1),
 O 6 (.alloc (K1 10) (.a [(I 0), (I 0), (I 0), (I 0), (I 0), (I 0), (.s []), (.s []), (.l (K1 3) [] true), (.i .u64 0)])),
 E (.store (K1 10) (.t 6) (.t 19)),
 O 7 (.mov (.t 20))] [6, 20, 19, 13, 18, 17, 16, 15, 14]) (
 sq (sq (.reg [
 O 21 (.mov (.t 7))] [7]) (
 .cond (.t 21) (sq (.reg [
 O 4 (.mov (.c (I 12)))] []) (
 .ret))
 (.skip))) (
 sq (.reg [
 O 22 (.load (K1 22) (.t 2)),
 O 23 (.load (K1 10) (.t 3)),
 O 24 (.call 0 548 [(.t 22), (.t 23)]),
 O 5 (.mov (.t 24))] [24, 23, 22]) (
 sq (sq (.reg [
 O 25 (.mov (.t 5)),
 O 26 (.bin .eql (.t 25) (.c (I 0)))] [25]) (
 .cond (.t 26) (.reg [
 O 27 (.load (K1 22) (.t 2)),
 O 28 (.load (K1 10) (.t 3)),
 O 29 (.call 0 1017 [(.t 27), (.t 28)]),
 O 5 (.mov (.t 29))] [29, 28, 27])
 (.skip))) (
 sq (sq (.reg [
 O 30 (.mov (.t 5)),
 O 31 (.bin .eql (.t 30) (.c (I 0)))] [30]) (
 .cond (.t 31) (.reg [
 O 32 (.faddr 19 (.t 2)),
 O 33 (.load K0 (.t 32)),
 O 34 (.load (K1 10) (.t 3)),
 O 35 (.call 0 604 [(.t 33), (.t 34)]),
 O 5 (.mov (.t 35))] [35, 3, 34, 33, 2, 32])
 (.skip))) (
 sq (.reg [
 O 36 (.mov (.t 5)),
 O 4 (.mov (.t 36))] [5, 36]) (
 .ret)))))))))⟩
def F1015 : PF := ⟨2, [.t 4, .t 5],
 sq (.reg [
 O 3 (.box (K1 10) (.t 1)),
 O 4 (.mov (.c (.l (K1 10) [] true))),
 O 5 (.mov (.c (I 0)))] [5, 4, 1]) (
 sq (.reg [
 O 7 (.mov (.t 0)),
 O 8 (.load (K1 10) (.t 3)),
 O 9 (.call 0 604 [(.t 7), (.t 8)]),
 O 6 (.mov (.t 9))] [9, 8, 7]) (
 sq (sq (.reg [
 O 10 (.mov (.t 6)),
 O 11 (.bin .neq (.t 10) (.c (I 0)))] [10]) (
 .cond (.t 11) (sq (.reg [
 O 12 (.mov (.t 6)),
 O 4 (.mov (.c (.l (K1 10) [] true))),
 O 5 (.mov (.t 12))] [6, 12]) (
 .ret))
 (.skip))) (
 sq (.regD [
 O 13 (.bsl (K1 10) (.a [(I 0), (I 0), (I 0), (I 0), (I 0), (I 0), (.s []), (.s []), (.l (K1 3) [] true), (.i .u64 0)]) 0 []),
 O 14 (.mov (.t 0)),
 O 15 (.app (K1 10) 112 (.t 13) (.t 14)),
 O 16 (.mov (.t 0)),
 O 17 (.load (K1 10) (.t 3)),
 O 18 (.call 0 605 [(.t 16), (.t 17)]),
 O 19 (.bsl (K1 10) (.a [(I 0), (I 0), (I 0), (I 0), (I 0), (I 0), (.s []), (.s []), (.l (K1 3) [] true), (.i .u64 0)]) 1 [(0, (.t 18))]),
 O 20 (.app (K1 10) 112 (.t 15) (.t 19)),
 O 4 (.mov (.t 20)),
 O 5 (.mov (.c (I 0)))] [0, 0, 3, 0, 0, 31, 63, 127, 255, 511] [20, 19, 18, 3, 17, 16, 15, 0, 14, 13]) (
 .ret))))⟩
def L1016_0 : PC :=
 sq (sq (.reg [
 O 7 (.mov (.t 6)),
 O 8 (.mov (.t 0)),
 O 9 (.len false (.t 8)),
 O 10 (.bin .lss (.t 7) (.t 9))] [9, 8, 7]) (
 .cond (.t 10) (.skip)
 (.exit 0))) (
 sq (.block 1 (
 sq (.reg [
 O 13 (.mov (.t 0)),
 O 14 (.mov (.t 6)),
 O 15 (.iaddr (K1 10) (.t 13) (.t 14)),
 O 16 (.faddr 6 (.t 15)),
 O 17 (.load K0 (.t 16)),
 O 18 (.mov (.t 1)),
 O 19 (.bin .eql (.t 17) (.t 18))] [18, 17, 16, 15, 14, 13]) (
 .cond (.t 19) (sq (.reg [
 O 20 (.mov (.t 0)),
 O 21 (.mov (.t 6)),
 O 22 (.iaddr (K1 10) (.t 20) (.t 21)),
 O 23 (.load (K1 10) (.t 22)),
 E (.store (K1 10) (.t 4) (.t 23)),
 O 5 (.mov (.c (.b true)))] [23, 22, 6, 21, 0, 20]) (
 .ret))
 (.skip)))) (
 .reg [
 O 11 (.mov (.t 6)),
 O 12 (.bin .add (.t 11) (.c (I 1))),
 O 6 (.mov (.t 12))] [12, 11]))
def F1016 : PF := ⟨2, [.c 4 (K1 10), .t 5],
 sq (.reg [
 O 4 (.alloc (K1 10) (.a [(I 0), (I 0), (I 0), (I 0), (I 0), (I 0), (.s []), (.s []), (.l (K1 3) [] true), (.i .u64 0)])),
 O 5 (.mov (.c (.b false)))] [5]) (
 sq (sq (.reg [
 O 6 (.mov (.c (I 0)))] []) (
 .block 0 (
 .loop [0, 1, 4, 6] L1016_0))) (
 sq (.reg [
 O 24 (.agg [(I 0), (I 0), (I 0), (I 0), (I 0), (I 0), (.s []), (.s []), (.l (K1 3) [] true), (.i .u64 0)] []),
 E (.store (K1 10) (.t 4) (.t 24)),
 O 5 (.mov (.c (.b false)))] [24]) (
 .ret)))⟩
def L1017_0 : PC :=
 sq (sq (.reg [
 O 14 (.mov (.t 6)),
 O 15 (.mov (.t 5)),
 O 16 (.len false (.t 15)),
 O 17 (.bin .lss (.t 14) (.t 16))] [16, 15, 14]) (
 .cond (.t 17) (.skip)
 (.exit 0))) (
 sq (.block 1 (
 sq (sq (.reg [
 O 20 (.mov (.t 5)),
 O 21 (.mov (.t 6)),
 O 22 (.iaddr (K1 3) (.t 20) (.t 21)),
 O 23 (.faddr 0 (.t 22)),
 O 24 (.load K0 (.t 23)),
 O 25 (.bin .lss (.t 24) (.c (I 1000)))] [24, 23, 22, 21, 20]) (
 .cond (.t 25) (.exit 1)
 (.skip))) (
 sq (.regD [
 O 26 (.load (K1 22) (.t 2)),
 O 27 (.mov (.t 5)),
 O 28 (.mov (.t 6)),
 O 29 (.iaddr (K1 3) (.t 27) (.t 28)),
 O 30 (.load (K1 3) (.t 29)),
 O 31 (.faddr 1 (.t 3)),
 O 32 (.load K0 (.t 31)),
 O 33 (.call 0 1019 [(.t 26), (.t 30), (.t 32)]),
 O 7 (.mov (.t 33))] [0, 0, 0, 6, 14, 0, 32, 127, 255] [33, 32, 31, 30, 29, 28, 27, 26]) (
 sq (.reg [
 O 34 (.mov (.t 7)),
 O 35 (.bin .neq (.t 34) (.c (I 0)))] [34]) (
 .cond (.t 35) (sq (.reg [
 O 36 (.mov (.t 7)),
 O 4 (.mov (.t 36))] [7, 36]) (
 .ret))
 (.skip)))))) (
 .reg [
 O 18 (.mov (.t 6)),
 O 19 (.bin .add (.t 18) (.c (I 1))),
 O 6 (.mov (.t 19))] [19, 18]))
def F1017 : PF := ⟨2, [.t 4],
 sq (.reg [
 O 2 (.box (K1 22) (.t 0)),
 O 3 (.box (K1 10) (.t 1)),
 O 4 (.mov (.c (I 0)))] [4, 1, 0]) (
 sq (sq (.reg [
 O 8 (.faddr 4 (.t 3)),
 O 9 (.load K0 (.t 8)),
 O 10 (.bin .neq (.t 9) (.c (I 0)))] [9, 8]) (
 .cond (.t 10) (sq (.reg [
 O 4 (.mov (.c (I 0)))] []) (
 .ret))
 (.skip))) (
 sq (.reg [
 O 11 (.faddr 8 (.t 3)),
 O 12 (.load K0 (.t 11)),
 O 13 (.call 0 1018 [(.t 12)]),
 O 5 (.mov (.t 13))] [13, 12, 11]) (
 sq (sq (.reg [
 O 6 (.mov (.c (I 0)))] []) (
 .block 0 (
 .loop [2, 3, 5, 6] L1017_0))) (
 sq (.reg [
 O 4 (.mov (.c (I 0)))] []) (
 .ret)))))⟩
def L1018_0 : PC :=
 sq (sq (.regD [
 O 16 (.mov (.t 6)),
 O 17 (.mov (.t 3)),
 O 18 (.len false (.t 17)),
 O 19 (.bin .lss (.t 16) (.t 18)),
 O 20 (.mov (.t 19)),
 OG 21 20 true (.mov (.t 3)),
 OG 22 20 true (.mov (.t 6)),
 OG 23 20 true (.iaddr (K1 3) (.t 21) (.t 22)),
 OG 24 20 true (.load (K1 3) (.t 23)),
 OG 25 20 true (.mov (.t 0)),
 OG 26 20 true (.mov (.t 4)),
 OG 27 20 true (.iaddr (K1 3) (.t 25) (.t 26)),
 OG 28 20 true (.load (K1 3) (.t 27)),
 OG 29 20 true (.call 0 1020 [(.t 24), (.t 28)]),
 O 30 (.pick (.t 20) (.t 29) (.c (.b false)))] [0, 0, 2, 7, 15, 31, 31, 127, 255, 31, 31, 1567, 3615, 8191, 16383] [29, 28, 27, 26, 25, 24, 23, 22, 21, 20, 19, 18, 17, 16]) (
 .cond (.t 30) (.skip)
 (.exit 2))) (
 .block 3 (
 .reg [
 O 31 (.mov (.t 6)),
 O 32 (.bin .add (.t 31) (.c (I 1))),
 O 6 (.mov (.t 32))] [32, 31]))
def L1018_1 : PC :=
 sq (sq (.reg [
 O 10 (.mov (.t 4)),
 O 11 (.mov (.t 0)),
 O 12 (.len false (.t 11)),
 O 13 (.bin .lss (.t 10) (.t 12))] [12, 11, 10]) (
 .cond (.t 13) (.skip)
 (.exit 0))) (
 sq (.block 1 (
 sq (.reg [
 O 5 (.mov (.c (.l (K1 3) [] true)))] []) (
 sq (.reg [
 O 6 (.mov (.c (I 0)))] []) (
 sq (.block 2 (
 .loop [0, 3, 4, 5, 6] L1018_0)) (
 sq (.reg [
 O 33 (.mov (.t 5)),
 O 34 (.mov (.t 3)),
 O 35 (.mov (.t 6)),
 O 36 (.sl (K1 3) (.t 34) none (some (.t 35)) none),
 O 37 (.app (K1 3) 32 (.t 33) (.t 36)),
 O 5 (.mov (.t 37))] [37, 36, 35, 34, 33]) (
 sq (.reg [
 O 38 (.mov (.t 0)),
 O 39 (.mov (.t 4)),
 O 40 (.iaddr (K1 3) (.t 38) (.t 39)),
 O 41 (.load (K1 3) (.t 40)),
 O 7 (.alloc (K1 3) (.a [(I 0), (I 0), (.s [])])),
 E (.store (K1 3) (.t 7) (.t 41))] [41, 40, 39, 38]) (
 sq (sq (.regD [
 O 42 (.mov (.t 6)),
 O 43 (.mov (.t 3)),
 O 44 (.len false (.t 43)),
 O 45 (.bin .lss (.t 42) (.t 44)),
 O 46 (.mov (.t 45)),
 OG 47 46 true (.load (K1 3) (.t 7)),
 OG 48 46 true (.mov (.t 3)),
 OG 49 46 true (.mov (.t 6)),
 OG 50 46 true (.iaddr (K1 3) (.t 48) (.t 49)),
 OG 51 46 true (.load (K1 3) (.t 50)),
 OG 52 46 true (.call 0 1020 [(.t 47), (.t 51)]),
 OG 53 46 true (.un .not (.t 52)),
 O 54 (.pick (.t 46) (.t 53) (.c (.b false)))] [0, 0, 2, 7, 15, 31, 31, 31, 223, 479, 1023, 2047, 4095] [53, 52, 51, 50, 49, 48, 47, 46, 45, 44, 43, 42]) (
 .cond (.t 54) (sq (.regD [
 O 55 (.faddr 1 (.t 7)),
 O 56 (.load K0 (.t 55)),
 O 57 (.mov (.t 3)),
 O 58 (.mov (.t 6)),
 O 59 (.iaddr (K1 3) (.t 57) (.t 58)),
 O 60 (.faddr 1 (.t 59)),
 O 61 (.load K0 (.t 60)),
 O 62 (.bin .add (.t 56) (.t 61)),
 O 63 (.faddr 1 (.t 7)),
 E (.store K0 (.t 63) (.t 62))] [0, 1, 0, 0, 12, 28, 60, 127, 255, 511] [63, 62, 61, 60, 59, 58, 57, 56, 55]) (
 .reg [
 O 64 (.mov (.t 6)),
 O 65 (.bin .add (.t 64) (.c (I 1))),
 O 6 (.mov (.t 65))] [65, 64]))
 (.skip))) (
 sq (.reg [
 O 66 (.mov (.t 5)),
 O 67 (.load (K1 3) (.t 7)),
 O 68 (.bsl (K1 3) (.a [(I 0), (I 0), (.s [])]) 1 [(0, (.t 67))]),
 O 69 (.app (K1 3) 32 (.t 66) (.t 68)),
 O 5 (.mov (.t 69))] [69, 68, 7, 67, 66]) (
 sq (.reg [
 O 70 (.mov (.t 5)),
 O 71 (.mov (.t 3)),
 O 72 (.mov (.t 6)),
 O 73 (.sl (K1 3) (.t 71) (some (.t 72)) none none),
 O 74 (.app (K1 3) 32 (.t 70) (.t 73)),
 O 5 (.mov (.t 74))] [74, 73, 6, 72, 3, 71, 70]) (
 .reg [
 O 75 (.mov (.t 5)),
 O 3 (.mov (.t 75))] [5, 75])))))))))) (
 .reg [
 O 14 (.mov (.t 4)),
 O 15 (.bin .add (.t 14) (.c (I 1))),
 O 4 (.mov (.t 15))] [15, 14]))
def L1018_2 : PC :=
 sq (sq (.reg [
 O 76 (.mov (.t 9)),
 O 77 (.mov (.t 3)),
 O 78 (.len false (.t 77)),
 O 79 (.bin .lss (.t 76) (.t 78))] [78, 77, 76]) (
 .cond (.t 79) (.skip)
 (.exit 4))) (
 sq (.block 5 (
 sq (.reg [
 O 82 (.mov (.t 3)),
 O 83 (.mov (.t 9)),
 O 84 (.iaddr (K1 3) (.t 82) (.t 83)),
 O 85 (.faddr 1 (.t 84)),
 O 86 (.load K0 (.t 85)),
 O 87 (.bin .neq (.t 86) (.c (I 0)))] [86, 85, 84, 83, 82]) (
 .cond (.t 87) (.reg [
 O 88 (.mov (.t 8)),
 O 89 (.mov (.t 3)),
 O 90 (.mov (.t 9)),
 O 91 (.iaddr (K1 3) (.t 89) (.t 90)),
 O 92 (.load (K1 3) (.t 91)),
 O 93 (.bsl (K1 3) (.a [(I 0), (I 0), (.s [])]) 1 [(0, (.t 92))]),
 O 94 (.app (K1 3) 32 (.t 88) (.t 93)),
 O 8 (.mov (.t 94))] [94, 93, 92, 91, 90, 89, 88])
 (.skip)))) (
 .reg [
 O 80 (.mov (.t 9)),
 O 81 (.bin .add (.t 80) (.c (I 1))),
 O 9 (.mov (.t 81))] [81, 80]))
def F1018 : PF := ⟨1, [.t 2],
 sq (.reg [
 O 2 (.mov (.c (.l (K1 3) [] true)))] [2]) (
 sq (.reg [
 O 3 (.mov (.c (.l (K1 3) [] true)))] []) (
 sq (sq (.reg [
 O 4 (.mov (.c (I 0)))] []) (
 .block 0 (
 .loop [0, 3, 4] L1018_1))) (
 sq (.reg [
 O 8 (.mov (.c (.l (K1 3) [] true)))] []) (
 sq (sq (.reg [
 O 9 (.mov (.c (I 0)))] []) (
 .block 4 (
 .loop [3, 8, 9] L1018_2))) (
 sq (.reg [
 O 95 (.mov (.t 8)),
 O 2 (.mov (.t 95))] [8, 95]) (
 .ret))))))⟩
def F1019 : PF := ⟨3, [.t 6],
 sq (.reg [
 O 3 (.box (K1 22) (.t 0)),
 O 4 (.box (K1 3) (.t 1)),
 O 6 (.mov (.c (I 0)))] [6, 1, 0]) (
 sq (sq (.reg [
 O 14 (.load (K1 22) (.t 3)),
 O 15 (.faddr 0 (.t 4)),
 O 16 (.load K0 (.t 15)),
 O 17 (.call 0 683 [(.t 14), (.t 16)]),
 O 13 (.mov (.t 17)),
 O 18 (.ext (.t 13) 0),
 O 19 (.ext (.t 13) 1),
 O 7 (.alloc (K1 7) (.a [(I 0), (I 0), (I 0), (I 0), (.s []), (.s []), (.s [])])),
 E (.store (K1 7) (.t 7) (.t 18)),
 O 8 (.mov (.t 19))] [7, 19, 18, 13, 17, 16, 15, 14]) (
 sq (.reg [
 O 20 (.mov (.t 8)),
 O 21 (.un .not (.t 20))] [8, 20]) (
 .cond (.t 21) (sq (.reg [
 O 6 (.mov (.c (I 11)))] []) (
 .ret))
 (.skip)))) (
 sq (sq (.reg [
 O 22 (.load (K1 22) (.t 3)),
 O 23 (.faddr 0 (.t 4)),
 O 24 (.load K0 (.t 23)),
 O 25 (.mov (.t 2)),
 O 26 (.call 0 684 [(.t 22), (.t 24), (.t 25)]),
 O 27 (.un .not (.t 26))] [26, 25, 24, 23, 22]) (
 .cond (.t 27) (sq (.reg [
 O 6 (.mov (.c (I 16)))] []) (
 .ret))
 (.skip))) (
 sq (sq (.reg [
 O 28 (.faddr 21 (.t 3)),
 O 29 (.load K0 (.t 28)),
 O 30 (.faddr 0 (.t 4)),
 O 31 (.load K0 (.t 30)),
 O 32 (.mov (.t 2)),
 O 33 (.faddr 1 (.t 4)),
 O 34 (.load K0 (.t 33)),
 O 35 (.call 0 1021 [(.t 29), (.t 31), (.t 32), (.t 34)])] [34, 33, 32, 31, 30, 29, 28]) (
 .cond (.t 35) (sq (.reg [
 O 6 (.mov (.c (I 19)))] []) (
 .ret))
 (.skip))) (
 sq (sq (.reg [
 O 36 (.faddr 1 (.t 4)),
 O 37 (.load K0 (.t 36)),
 O 38 (.bin .leq (.t 37) (.c (I 0)))] [37, 36]) (
 .cond (.t 38) (sq (.reg [
 O 6 (.mov (.c (I 0)))] []) (
 .ret))
 (.skip))) (
 sq (.reg [
 O 40 (.load (K1 22) (.t 3)),
 O 41 (.faddr 0 (.t 4)),
 O 42 (.load K0 (.t 41)),
 O 43 (.mov (.t 2)),
 O 44 (.call 0 1022 [(.t 40), (.t 42), (.t 43)]),
 O 39 (.mov (.t 44)),
 O 45 (.ext (.t 39) 0),
 O 46 (.ext (.t 39) 1),
 O 9 (.mov (.t 45)),
 O 10 (.mov (.t 46))] [46, 45, 39, 44, 43, 42, 41, 40]) (
 sq (sq (.reg [
 O 47 (.mov (.t 10)),
 O 48 (.bin .neq (.t 47) (.c (I 0)))] [47]) (
 .cond (.t 48) (sq (.reg [
 O 49 (.mov (.t 10)),
 O 6 (.mov (.t 49))] [10, 49]) (
 .ret))
 (.skip))) (
 sq (sq (.reg [
 O 50 (.faddr 1 (.t 4)),
 O 51 (.load K0 (.t 50)),
 O 52 (.mov (.t 9)),
 O 53 (.bin .gtr (.t 51) (.t 52))] [9, 52, 51, 50]) (
 .cond (.t 53) (sq (.reg [
 O 6 (.mov (.c (I 18)))] []) (
 .ret))
 (.skip))) (
 sq (.reg [
 O 55 (.load (K1 22) (.t 3)),
 O 56 (.faddr 0 (.t 4)),
 O 57 (.load K0 (.t 56)),
 O 58 (.mov (.t 2)),
 O 59 (.call 0 1023 [(.t 55), (.t 57), (.t 58)]),
 O 54 (.mov (.t 59)),
 O 60 (.ext (.t 54) 0),
 O 61 (.ext (.t 54) 1),
 O 11 (.alloc (K1 19) (.a [(.s []), (.s []), (.s []), (I 0), (I 0), (I 0), (I 0), (.l (K1 2) [] true), (.b false), (I 0), (I 0), (.b false), (.l (K1 2) [] true), (.b false), (I 0), (I 0), (.b false), (.l (K1 10) [] true), (.l (K1 6) [] true)])),
 E (.store (K1 19) (.t 11) (.t 60)),
 O 12 (.mov (.t 61))] [12, 61, 60, 54, 59, 58, 57, 56, 55]) (
 sq (.reg [
 O 62 (.load (K1 22) (.t 3)),
 O 63 (.load (K1 19) (.t 11)),
 O 64 (.faddr 0 (.t 4)),
 O 65 (.load K0 (.t 64)),
 O 66 (.mov (.t 2)),
 O 67 (.faddr 1 (.t 4)),
 O 68 (.load K0 (.t 67)),
 O 69 (.call 0 1024 [(.t 62), (.t 63), (.t 65), (.t 66), (.t 68)]),
 O 6 (.mov (.t 69))] [69, 68, 67, 2, 66, 65, 4, 64, 11, 63, 3, 62]) (
 .ret))))))))))⟩
def F1020 : PF := ⟨2, [.t 4],
 sq (.reg [
 O 2 (.box (K1 3) (.t 0)),
 O 3 (.box (K1 3) (.t 1)),
 O 4 (.mov (.c (.b false)))] [4, 1, 0]) (
 sq (.reg [
 O 5 (.faddr 0 (.t 2)),
 O 6 (.load K0 (.t 5)),
 O 7 (.faddr 0 (.t 3)),
 O 8 (.load K0 (.t 7)),
 O 9 (.bin .lss (.t 6) (.t 8)),
 O 10 (.mov (.t 9)),
 OG 11 10 false (.faddr 0 (.t 2)),
 OG 12 10 false (.load K0 (.t 11)),
 OG 13 10 false (.faddr 0 (.t 3)),
 OG 14 10 false (.load K0 (.t 13)),
 OG 15 10 false (.bin .eql (.t 12) (.t 14)),
 OG 16 10 false (.mov (.t 15)),
 OG 17 16 true (.faddr 2 (.t 2)),
 OG 18 16 true (.load K0 (.t 17)),
 OG 19 16 true (.faddr 2 (.t 3)),
 OG 20 16 true (.load K0 (.t 19)),
 OG 21 16 true (.bin .lss (.t 18) (.t 20)),
 OG 22 10 false (.pick (.t 16) (.t 21) (.c (.b false))),
 O 23 (.pick (.t 10) (.c (.b true)) (.t 22)),
 O 4 (.mov (.t 23))] [23, 22, 21, 20, 19, 18, 17, 16, 15, 14, 13, 12, 11, 10, 9, 8, 3, 7, 6, 2, 5]) (
 .ret))⟩
def L1021_0 : PC :=
 sq (sq (.reg [
 O 15 (.mov (.t 10)),
 O 16 (.mov (.t 9)),
 O 17 (.len false (.t 16)),
 O 18 (.bin .lss (.t 15) (.t 17))] [17, 16, 15]) (
 .cond (.t 18) (.skip)
 (.exit 0))) (
 sq (.block 1 (
 sq (.reg [
 O 21 (.mov (.t 9)),
 O 22 (.mov (.t 10)),
 O 23 (.iaddr (K1 7) (.t 21) (.t 22)),
 O 24 (.faddr 2 (.t 23)),
 O 25 (.load K0 (.t 24)),
 O 26 (.bin .eql (.t 25) (.c (I 1))),
 O 27 (.mov (.t 26)),
 OG 28 27 false (.mov (.t 9)),
 OG 29 27 false (.mov (.t 10)),
 OG 30 27 false (.iaddr (K1 7) (.t 28) (.t 29)),
 OG 31 27 false (.faddr 2 (.t 30)),
 OG 32 27 false (.load K0 (.t 31)),
 OG 33 27 false (.bin .eql (.t 32) (.c (I 2))),
 OG 34 27 false (.mov (.t 33)),
 OG 35 34 true (.mov (.t 3)),
 OG 36 34 true (.bin .gtr (.t 35) (.c (I 0))),
 OG 37 27 false (.pick (.t 34) (.t 36) (.c (.b false))),
 O 38 (.pick (.t 27) (.c (.b true)) (.t 37)),
 O 39 (.mov (.t 38)),
 OG 40 39 false (.mov (.t 9)),
 OG 41 39 false (.mov (.t 10)),
 OG 42 39 false (.iaddr (K1 7) (.t 40) (.t 41)),
 OG 43 39 false (.faddr 2 (.t 42)),
 OG 44 39 false (.load K0 (.t 43)),
 OG 45 39 false (.bin .eql (.t 44) (.c (I 3))),
 OG 46 39 false (.mov (.t 45)),
 OG 47 46 true (.mov (.t 3)),
 OG 48 46 true (.bin .lss (.t 47) (.c (I 0))),
 OG 49 39 false (.pick (.t 46) (.t 48) (.c (.b false))),
 O 50 (.pick (.t 39) (.c (.b true)) (.t 49))] [49, 48, 47, 46, 45, 44, 43, 42, 41, 40, 39, 38, 37, 36, 35, 34, 33, 32, 31, 30, 29, 28, 27, 26, 25, 24, 23, 22, 21]) (
 .cond (.t 50) (sq (.reg [
 O 8 (.mov (.c (.b true)))] []) (
 .ret))
 (.skip)))) (
 .reg [
 O 19 (.mov (.t 10)),
 O 20 (.bin .add (.t 19) (.c (I 1))),
 O 10 (.mov (.t 20))] [20, 19]))
def F1021 : PF := ⟨4, [.t 8],
 sq (.reg [
 O 8 (.mov (.c (.b false)))] [8]) (
 sq (.reg [
 O 11 (.mov (.t 0)),
 O 12 (.mov (.t 1)),
 O 13 (.mov (.t 2)),
 O 14 (.call 0 1025 [(.t 11), (.t 12), (.t 13)]),
 O 9 (.mov (.t 14))] [14, 2, 13, 1, 12, 0, 11]) (
 sq (sq (.reg [
 O 10 (.mov (.c (I 0)))] []) (
 .block 0 (
 .loop [3, 9, 10] L1021_0))) (
 sq (.reg [
 O 8 (.mov (.c (.b false)))] []) (
 .ret))))⟩
def L1025_0 : PC :=
 sq (sq (.reg [
 O 10 (.mov (.t 8)),
 O 11 (.mov (.t 0)),
 O 12 (.len false (.t 11)),
 O 13 (.bin .lss (.t 10) (.t 12))] [12, 11, 10]) (
 .cond (.t 13) (.skip)
 (.exit 0))) (
 sq (.block 1 (
 sq (.reg [
 O 16 (.mov (.t 0)),
 O 17 (.mov (.t 8)),
 O 18 (.iaddr (K1 7) (.t 16) (.t 17)),
 O 19 (.faddr 1 (.t 18)),
 O 20 (.load K0 (.t 19)),
 O 21 (.mov (.t 1)),
 O 22 (.bin .eql (.t 20) (.t 21)),
 O 23 (.mov (.t 22)),
 OG 24 23 true (.mov (.t 0)),
 OG 25 23 true (.mov (.t 8)),
 OG 26 23 true (.iaddr (K1 7) (.t 24) (.t 25)),
 OG 27 23 true (.faddr 4 (.t 26)),
 OG 28 23 true (.load K0 (.t 27)),
 OG 29 23 true (.mov (.t 2)),
 OG 30 23 true (.bin .leq (.t 28) (.t 29)),
 O 31 (.pick (.t 23) (.t 30) (.c (.b false))),
 O 32 (.mov (.t 31)),
 OG 33 32 true (.mov (.t 2)),
 OG 34 32 true (.mov (.t 0)),
 OG 35 32 true (.mov (.t 8)),
 OG 36 32 true (.iaddr (K1 7) (.t 34) (.t 35)),
 OG 37 32 true (.faddr 5 (.t 36)),
 OG 38 32 true (.load K0 (.t 37)),
 OG 39 32 true (.bin .leq (.t 33) (.t 38)),
 O 40 (.pick (.t 32) (.t 39) (.c (.b false)))] [39, 38, 37, 36, 35, 34, 33, 32, 31, 30, 29, 28, 27, 26, 25, 24, 23, 22, 21, 20, 19, 18, 17, 16]) (
 .cond (.t 40) (.reg [
 O 41 (.mov (.t 7)),
 O 42 (.mov (.t 0)),
 O 43 (.mov (.t 8)),
 O 44 (.iaddr (K1 7) (.t 42) (.t 43)),
 O 45 (.load (K1 7) (.t 44)),
 O 46 (.bsl (K1 7) (.a [(I 0), (I 0), (I 0), (I 0), (I 0), (I 0), (.s [])]) 1 [(0, (.t 45))]),
 O 47 (.app (K1 7) 64 (.t 41) (.t 46)),
 O 7 (.mov (.t 47))] [47, 46, 45, 44, 43, 42, 41])
 (.skip)))) (
 .reg [
 O 14 (.mov (.t 8)),
 O 15 (.bin .add (.t 14) (.c (I 1))),
 O 8 (.mov (.t 15))] [15, 14]))
def F1025 : PF := ⟨3, [.t 6],
 sq (.reg [
 O 6 (.mov (.c (.l (K1 7) [] true)))] [6]) (
 sq (.reg [
 O 9 (.bsl (K1 7) (.a [(I 0), (I 0), (I 0), (I 0), (I 0), (I 0), (.s [])]) 0 []),
 O 7 (.mov (.t 9))] [9]) (
 sq (sq (.reg [
 O 8 (.mov (.c (I 0)))] []) (
 .block 0 (
 .loop [0, 1, 2, 7, 8] L1025_0))) (
 sq (.reg [
 O 48 (.mov (.t 7)),
 O 6 (.mov (.t 48))] [7, 48]) (
 .ret))))⟩
end Go.Sim

