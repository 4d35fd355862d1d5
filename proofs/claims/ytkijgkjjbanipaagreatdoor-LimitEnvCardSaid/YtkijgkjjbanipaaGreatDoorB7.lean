/- Part 7 of the proof: CbA25a. -/
import Derived.Test.YtkijgkjjbanipaaGreatDoorB2
import Derived.Test.YtkijgkjjbanipaaGreatDoorB6
set_option linter.all false
namespace Go.Sim
def F12 : PF := ⟨2, [.c 4 (K1 7), .t 5],
 sq (.reg [
 O 2 (.box (K1 22) (.t 0)),
 O 4 (.alloc (K1 7) (.a [(I 0), (I 0), (I 0), (I 0), (.s []), (.s []), (.s [])])),
 O 5 (.mov (.c (.b false)))] [5, 0]) (
 sq (.reg [
 O 7 (.load (K1 22) (.t 2)),
 O 8 (.mov (.t 1)),
 O 9 (.call 0 16 [(.t 7), (.t 8)]),
 O 6 (.mov (.t 9))] [9, 1, 8, 7]) (
 sq (sq (.reg [
 O 10 (.mov (.t 6)),
 O 11 (.bin .lss (.t 10) (.c (I 0)))] [10]) (
 .cond (.t 11) (sq (.reg [
 O 12 (.agg [(I 0), (I 0), (I 0), (I 0), (.s []), (.s []), (.s [])] []),
 E (.store (K1 7) (.t 4) (.t 12)),
 O 5 (.mov (.c (.b false)))] [12]) (
 .ret))
 (.skip))) (
 sq (.reg [
 O 13 (.faddr 18 (.t 2)),
 O 14 (.load K0 (.t 13)),
 O 15 (.mov (.t 6)),
 O 16 (.iaddr (K1 7) (.t 14) (.t 15)),
 O 17 (.load (K1 7) (.t 16)),
 E (.store (K1 7) (.t 4) (.t 17)),
 O 5 (.mov (.c (.b true)))] [17, 16, 6, 15, 14, 2, 13]) (
 .ret))))⟩
def F16 : PF := ⟨2, [.t 4],
 sq (.reg [
 O 2 (.box (K1 22) (.t 0)),
 O 3 (.box K0 (.t 1)),
 O 4 (.mov (.c (I 0)))] [4, 1, 0]) (
 sq (.reg [
 O 5 (.faddr 18 (.t 2)),
 O 6 (.load K0 (.t 5)),
 O 7 (.mkf 19 [(.t 3)]),
 O 8 (.call 2 18 [(.t 6), (.t 7)]),
 O 4 (.mov (.t 8))] [8, 3, 7, 6, 2, 5]) (
 .ret))⟩
def F18 : PF := FidxG (K1 7)
def F19 : PF := ⟨2, [.t 3],
 sq (.reg [
 O 2 (.box (K1 7) (.t 0)),
 O 3 (.mov (.c (.b false)))] [3, 0]) (
 sq (.reg [
 O 4 (.faddr 0 (.t 2)),
 O 5 (.load K0 (.t 4)),
 O 6 (.load K0 (.t 1)),
 O 7 (.bin .eql (.t 5) (.t 6)),
 O 3 (.mov (.t 7))] [7, 1, 6, 5, 2, 4]) (
 .ret))⟩
def F22 : PF := ⟨1, [.t 2],
 sq (.reg [
 O 2 (.mov (.c (.b false)))] [2]) (
 sq (.reg [
 O 3 (.mov (.t 0)),
 O 4 (.bin .geq (.t 3) (.c (I 0))),
 O 5 (.mov (.t 4)),
 OG 6 5 true (.mov (.t 0)),
 OG 7 5 true (.bin .leq (.t 6) (.c (I 73048))),
 O 8 (.pick (.t 5) (.t 7) (.c (.b false))),
 O 2 (.mov (.t 8))] [8, 7, 6, 5, 4, 0, 3]) (
 .ret))⟩
def F24 : PF := ⟨3, [.c 6 (K1 19), .t 7],
 sq (.reg [
 O 3 (.box (K1 22) (.t 0)),
 O 6 (.alloc (K1 19) (.a [(.s []), (.s []), (.s []), (I 0), (I 0), (I 0), (I 0), (.l (K1 2) [] true), (.b false), (I 0), (I 0), (.b false), (.l (K1 2) [] true), (.b false), (I 0), (I 0), (.b false), (.l (K1 10) [] true), (.l (K1 6) [] true)])),
 O 7 (.mov (.c (.b false)))] [7, 0]) (
 sq (.reg [
 O 11 (.load (K1 22) (.t 3)),
 O 12 (.mov (.t 1)),
 O 13 (.call 0 12 [(.t 11), (.t 12)]),
 O 10 (.mov (.t 13)),
 O 14 (.ext (.t 10) 0),
 O 15 (.ext (.t 10) 1),
 O 8 (.alloc (K1 7) (.a [(I 0), (I 0), (I 0), (I 0), (.s []), (.s []), (.s [])])),
 E (.store (K1 7) (.t 8) (.t 14)),
 O 9 (.mov (.t 15))] [15, 14, 10, 13, 1, 12, 11]) (
 sq (sq (.reg [
 O 16 (.mov (.t 9)),
 O 17 (.un .not (.t 16))] [9, 16]) (
 .cond (.t 17) (sq (.reg [
 O 18 (.agg [(.s []), (.s []), (.s []), (I 0), (I 0), (I 0), (I 0), (.l (K1 2) [] true), (.b false), (I 0), (I 0), (.b false), (.l (K1 2) [] true), (.b false), (I 0), (I 0), (.b false), (.l (K1 10) [] true), (.l (K1 6) [] true)] []),
 E (.store (K1 19) (.t 6) (.t 18)),
 O 7 (.mov (.c (.b false)))] [18]) (
 .ret))
 (.skip))) (
 sq (.reg [
 O 19 (.faddr 17 (.t 3)),
 O 20 (.load K0 (.t 19)),
 O 21 (.faddr 5 (.t 8)),
 O 22 (.load K0 (.t 21)),
 O 23 (.mov (.t 2)),
 O 24 (.call 0 30 [(.t 20), (.t 22), (.t 23)]),
 O 25 (.ext (.t 24) 0),
 O 26 (.ext (.t 24) 1),
 E (.store (K1 19) (.t 6) (.t 25)),
 O 7 (.mov (.t 26))] [26, 25, 24, 2, 23, 22, 8, 21, 20, 3, 19]) (
 .ret))))⟩
def L30_0 : PC :=
 sq (.reg [
 O 14 (.bin .lss (.t 13) (.t 12))] []) (
 sq (.cond (.t 14) (.skip)
 (.exit 0)) (
 sq (.block 1 (
 sq (.reg [
 O 15 (.mov (.t 13)),
 O 16 (.iaddr (K1 19) (.t 11) (.t 13)),
 O 17 (.load (K1 19) (.t 16)),
 O 10 (.alloc (K1 19) (.a [(.s []), (.s []), (.s []), (I 0), (I 0), (I 0), (I 0), (.l (K1 2) [] true), (.b false), (I 0), (I 0), (.b false), (.l (K1 2) [] true), (.b false), (I 0), (I 0), (.b false), (.l (K1 10) [] true), (.l (K1 6) [] true)])),
 O 9 (.mov (.t 15)),
 E (.store (K1 19) (.t 10) (.t 17))] [17, 16, 15]) (
 sq (.regD [
 O 18 (.faddr 0 (.t 10)),
 O 19 (.load K0 (.t 18)),
 O 20 (.mov (.t 1)),
 O 21 (.bin .eql (.t 19) (.t 20)),
 O 22 (.mov (.t 21)),
 OG 23 22 true (.faddr 3 (.t 10)),
 OG 24 22 true (.load K0 (.t 23)),
 OG 25 22 true (.mov (.t 2)),
 OG 26 22 true (.bin .leq (.t 24) (.t 25)),
 O 27 (.pick (.t 22) (.t 26) (.c (.b false))),
 O 28 (.mov (.t 27)),
 OG 29 28 true (.mov (.t 8)),
 OG 30 28 true (.bin .lss (.t 29) (.c (I 0))),
 OG 31 28 true (.mov (.t 30)),
 OG 32 31 false (.faddr 3 (.t 10)),
 OG 33 31 false (.load K0 (.t 32)),
 OG 34 31 false (.mov (.t 0)),
 OG 35 31 false (.mov (.t 8)),
 OG 36 31 false (.iaddr (K1 19) (.t 34) (.t 35)),
 OG 37 31 false (.faddr 3 (.t 36)),
 OG 38 31 false (.load K0 (.t 37)),
 OG 39 31 false (.bin .gtr (.t 33) (.t 38)),
 OG 40 28 true (.pick (.t 31) (.c (.b true)) (.t 39)),
 O 41 (.pick (.t 28) (.t 40) (.c (.b false)))] [0, 1, 0, 7, 15, 31, 63, 31, 255, 511, 1023, 2047, 4095, 8191, 16383, 32767, 16383, 16383, 212991, 475135, 999423, 2097151, 4194303, 8388607] [40, 39, 38, 37, 36, 35, 34, 33, 32, 31, 30, 29, 28, 27, 26, 25, 24, 23, 22, 21, 20, 19, 10, 18]) (
 .cond (.t 41) (.reg [
 O 42 (.mov (.t 9)),
 O 8 (.mov (.t 42))] [9, 42])
 (.skip))))) (
 .reg [
 O 43 (.bin .add (.t 13) (.c (I 1))),
 O 13 (.mov (.t 43))] [43])))
def F30 : PF := ⟨3, [.c 6 (K1 19), .t 7],
 sq (.reg [
 O 6 (.alloc (K1 19) (.a [(.s []), (.s []), (.s []), (I 0), (I 0), (I 0), (I 0), (.l (K1 2) [] true), (.b false), (I 0), (I 0), (.b false), (.l (K1 2) [] true), (.b false), (I 0), (I 0), (.b false), (.l (K1 10) [] true), (.l (K1 6) [] true)])),
 O 7 (.mov (.c (.b false)))] [7]) (
 sq (.reg [
 O 8 (.mov (.c (I (-1))))] []) (
 sq (sq (.reg [
 O 11 (.mov (.t 0)),
 O 12 (.len false (.t 11)),
 O 13 (.mov (.c (I 0)))] []) (
 .block 0 (
 .loop [0, 1, 2, 6, 8, 11, 12, 13] L30_0))) (
 sq (sq (.reg [
 O 44 (.mov (.t 8)),
 O 45 (.bin .lss (.t 44) (.c (I 0)))] [44]) (
 .cond (.t 45) (sq (.reg [
 O 46 (.agg [(.s []), (.s []), (.s []), (I 0), (I 0), (I 0), (I 0), (.l (K1 2) [] true), (.b false), (I 0), (I 0), (.b false), (.l (K1 2) [] true), (.b false), (I 0), (I 0), (.b false), (.l (K1 10) [] true), (.l (K1 6) [] true)] []),
 E (.store (K1 19) (.t 6) (.t 46)),
 O 7 (.mov (.c (.b false)))] [46]) (
 .ret))
 (.skip))) (
 sq (.reg [
 O 47 (.mov (.t 0)),
 O 48 (.mov (.t 8)),
 O 49 (.iaddr (K1 19) (.t 47) (.t 48)),
 O 50 (.load (K1 19) (.t 49)),
 E (.store (K1 19) (.t 6) (.t 50)),
 O 7 (.mov (.c (.b true)))] [50, 49, 8, 48, 0, 47]) (
 .ret)))))⟩
def F39 : PF := ⟨3, [.t 6],
 sq (.reg [
 O 3 (.box (K1 22) (.t 0)),
 O 6 (.mov (.c (.b false)))] [6, 0]) (
 sq (.reg [
 O 10 (.load (K1 22) (.t 3)),
 O 11 (.mov (.t 1)),
 O 12 (.call 0 12 [(.t 10), (.t 11)]),
 O 9 (.mov (.t 12)),
 O 13 (.ext (.t 9) 0),
 O 14 (.ext (.t 9) 1),
 O 7 (.alloc (K1 7) (.a [(I 0), (I 0), (I 0), (I 0), (.s []), (.s []), (.s [])])),
 E (.store (K1 7) (.t 7) (.t 13)),
 O 8 (.mov (.t 14))] [14, 13, 9, 12, 1, 11, 3, 10]) (
 sq (.reg [
 O 15 (.mov (.t 8)),
 O 16 (.mov (.t 15)),
 OG 17 16 true (.faddr 1 (.t 7)),
 OG 18 16 true (.load K0 (.t 17)),
 OG 19 16 true (.mov (.t 2)),
 OG 20 16 true (.bin .leq (.t 18) (.t 19)),
 O 21 (.pick (.t 16) (.t 20) (.c (.b false))),
 O 22 (.mov (.t 21)),
 OG 23 22 true (.faddr 2 (.t 7)),
 OG 24 22 true (.load K0 (.t 23)),
 OG 25 22 true (.bin .eql (.t 24) (.c (I 0))),
 OG 26 22 true (.mov (.t 25)),
 OG 27 26 false (.faddr 2 (.t 7)),
 OG 28 26 false (.load K0 (.t 27)),
 OG 29 26 false (.mov (.t 2)),
 OG 30 26 false (.bin .gtr (.t 28) (.t 29)),
 OG 31 22 true (.pick (.t 26) (.c (.b true)) (.t 30)),
 O 32 (.pick (.t 22) (.t 31) (.c (.b false))),
 O 6 (.mov (.t 32))] [32, 31, 30, 29, 28, 27, 26, 25, 24, 23, 22, 21, 20, 2, 19, 18, 7, 17, 16, 8, 15]) (
 .ret)))⟩
def F50 : PF := ⟨2, [.t 4],
 sq (.reg [
 O 2 (.box K0 (.t 0)),
 O 3 (.box K0 (.t 1)),
 O 4 (.mov (.c .nf))] [4, 1, 0]) (
 sq (.reg [
 O 5 (.mkf 59 [(.t 2), (.t 3)]),
 O 4 (.mov (.t 5))] [3, 2, 5]) (
 .ret))⟩
def L59_0 : PC :=
 sq (.reg [
 O 18 (.bin .lss (.t 17) (.t 16))] []) (
 sq (.cond (.t 18) (.skip)
 (.exit 2)) (
 sq (.block 3 (
 sq (.reg [
 O 19 (.iaddr (K1 3) (.t 15) (.t 17)),
 O 20 (.load (K1 3) (.t 19)),
 O 7 (.alloc (K1 3) (.a [(I 0), (I 0), (.s [])])),
 E (.store (K1 3) (.t 7) (.t 20))] [20, 19]) (
 sq (.reg [
 O 21 (.faddr 0 (.t 7)),
 O 22 (.load K0 (.t 21)),
 O 23 (.load K0 (.t 2)),
 O 24 (.bin .eql (.t 22) (.t 23)),
 O 25 (.mov (.t 24)),
 OG 26 25 true (.mov (.t 0)),
 OG 27 25 true (.load (K1 10) (.t 5)),
 OG 28 25 true (.faddr 1 (.t 7)),
 OG 29 25 true (.load K0 (.t 28)),
 OG 30 25 true (.callv (.t 26) [(.t 27), (.t 29)]),
 OG 31 25 true (.un .not (.t 30)),
 O 32 (.pick (.t 25) (.t 31) (.c (.b false)))] [31, 30, 29, 28, 27, 26, 25, 24, 23, 22, 7, 21]) (
 .cond (.t 32) (.ret)
 (.skip))))) (
 .reg [
 O 33 (.bin .add (.t 17) (.c (I 1))),
 O 17 (.mov (.t 33))] [33])))
def L59_1 : PC :=
 sq (.reg [
 O 11 (.bin .lss (.t 10) (.t 9))] []) (
 sq (.cond (.t 11) (.skip)
 (.exit 0)) (
 sq (.block 1 (
 sq (.reg [
 O 12 (.iaddr (K1 10) (.t 8) (.t 10)),
 O 13 (.load (K1 10) (.t 12)),
 O 5 (.alloc (K1 10) (.a [(I 0), (I 0), (I 0), (I 0), (I 0), (I 0), (.s []), (.s []), (.l (K1 3) [] true), (.i .u64 0)])),
 E (.store (K1 10) (.t 5) (.t 13))] [13, 12]) (
 sq (.reg [
 O 14 (.faddr 8 (.t 5)),
 O 15 (.load K0 (.t 14)),
 O 16 (.len false (.t 15)),
 O 17 (.mov (.c (I 0)))] [14]) (
 .block 2 (
 .loop [0, 2, 5, 8, 9, 10, 15, 16, 17] L59_0))))) (
 .reg [
 O 34 (.bin .add (.t 10) (.c (I 1))),
 O 10 (.mov (.t 34))] [34])))
def F59 : PF := ⟨3, [],
 sq (.reg [
 O 8 (.load K0 (.t 1)),
 O 9 (.len false (.t 8)),
 O 10 (.mov (.c (I 0)))] [1]) (
 .block 0 (
 .loop [0, 2, 8, 9, 10] L59_1))⟩
def L65_0 : PC :=
 sq (sq (.reg [
 O 13 (.mov (.t 5)),
 O 14 (.bin .add (.t 13) (.c (I 1))),
 O 15 (.call 0 71 [(.t 14)]),
 O 16 (.mov (.t 0)),
 O 17 (.bin .leq (.t 15) (.t 16))] [16, 15, 14, 13]) (
 .cond (.t 17) (.skip)
 (.exit 0))) (
 .block 1 (
 .reg [
 O 18 (.mov (.t 5)),
 O 19 (.bin .add (.t 18) (.c (I 1))),
 O 5 (.mov (.t 19))] [19, 18]))
def L65_1 : PC :=
 sq (sq (.reg [
 O 24 (.mov (.t 0)),
 O 25 (.mov (.t 5)),
 O 26 (.mov (.t 6)),
 O 27 (.call 0 72 [(.t 25), (.t 26)]),
 O 28 (.bin .geq (.t 24) (.t 27))] [27, 26, 25, 24]) (
 .cond (.t 28) (.skip)
 (.exit 2))) (
 .block 3 (
 sq (.reg [
 O 29 (.mov (.t 0)),
 O 30 (.mov (.t 5)),
 O 31 (.mov (.t 6)),
 O 32 (.call 0 72 [(.t 30), (.t 31)]),
 O 33 (.bin .sub (.t 29) (.t 32)),
 O 0 (.mov (.t 33))] [33, 32, 31, 30, 29]) (
 .reg [
 O 34 (.mov (.t 6)),
 O 35 (.bin .add (.t 34) (.c (I 1))),
 O 6 (.mov (.t 35))] [35, 34])))
def F65 : PF := ⟨1, [.t 2, .t 3, .t 4],
 sq (.reg [
 O 2 (.mov (.c (I 0))),
 O 3 (.mov (.c (I 0))),
 O 4 (.mov (.c (I 0)))] [4, 3, 2]) (
 sq (sq (.reg [
 O 7 (.mov (.t 0)),
 O 8 (.call 0 22 [(.t 7)]),
 O 9 (.un .not (.t 8))] [8, 7]) (
 .cond (.t 9) (sq (.reg [
 O 2 (.mov (.c (I 0))),
 O 3 (.mov (.c (I 0))),
 O 4 (.mov (.c (I 0)))] []) (
 .ret))
 (.skip))) (
 sq (.reg [
 O 10 (.mov (.t 0)),
 O 11 (.bin .quo (.t 10) (.c (I 366))),
 O 12 (.bin .add (.c (I 2000)) (.t 11)),
 O 5 (.mov (.t 12))] [12, 11, 10]) (
 sq (.block 0 (
 .loop [0, 5] L65_0)) (
 sq (.reg [
 O 20 (.mov (.t 0)),
 O 21 (.mov (.t 5)),
 O 22 (.call 0 71 [(.t 21)]),
 O 23 (.bin .sub (.t 20) (.t 22)),
 O 0 (.mov (.t 23))] [23, 22, 21, 20]) (
 sq (.reg [
 O 6 (.mov (.c (I 1)))] []) (
 sq (.block 2 (
 .loop [0, 5, 6] L65_1)) (
 sq (.reg [
 O 36 (.mov (.t 5)),
 O 37 (.mov (.t 6)),
 O 38 (.mov (.t 0)),
 O 39 (.bin .add (.t 38) (.c (I 1))),
 O 2 (.mov (.t 36)),
 O 3 (.mov (.t 37)),
 O 4 (.mov (.t 39))] [39, 0, 38, 6, 37, 5, 36]) (
 .ret))))))))⟩
def F71 : PF := ⟨1, [.t 2],
 sq (.reg [
 O 2 (.mov (.c (I 0)))] [2]) (
 sq (.reg [
 O 5 (.mov (.t 0)),
 O 6 (.bin .sub (.t 5) (.c (I 2000))),
 O 3 (.mov (.t 6))] [6, 5]) (
 sq (.reg [
 O 7 (.mov (.t 3)),
 O 8 (.bin .add (.t 7) (.c (I 3))),
 O 9 (.bin .quo (.t 8) (.c (I 4))),
 O 4 (.mov (.t 9))] [9, 8, 7]) (
 sq (sq (.reg [
 O 10 (.mov (.t 0)),
 O 11 (.bin .gtr (.t 10) (.c (I 2100)))] [0, 10]) (
 .cond (.t 11) (.reg [
 O 12 (.mov (.t 4)),
 O 13 (.bin .sub (.t 12) (.c (I 1))),
 O 4 (.mov (.t 13))] [13, 12])
 (.skip))) (
 sq (.reg [
 O 14 (.mov (.t 3)),
 O 15 (.bin .mul (.c (I 365)) (.t 14)),
 O 16 (.mov (.t 4)),
 O 17 (.bin .add (.t 15) (.t 16)),
 O 2 (.mov (.t 17))] [17, 4, 16, 15, 3, 14]) (
 .ret)))))⟩
def F72 : PF := ⟨2, [.t 4],
 sq (.reg [
 O 4 (.mov (.c (I 0)))] [4]) (
 sq (.reg [
 O 6 (.agg [(I 0), (I 0), (I 0), (I 0), (I 0), (I 0), (I 0), (I 0), (I 0), (I 0), (I 0), (I 0), (I 0)] [(0, K0, (.c (I 0))), (1, K0, (.c (I 31))), (2, K0, (.c (I 28))), (3, K0, (.c (I 31))), (4, K0, (.c (I 30))), (5, K0, (.c (I 31))), (6, K0, (.c (I 30))), (7, K0, (.c (I 31))), (8, K0, (.c (I 31))), (9, K0, (.c (I 30))), (10, K0, (.c (I 31))), (11, K0, (.c (I 30))), (12, K0, (.c (I 31)))]),
 O 5 (.alloc (K1 13) (.a [(I 0), (I 0), (I 0), (I 0), (I 0), (I 0), (I 0), (I 0), (I 0), (I 0), (I 0), (I 0), (I 0)])),
 E (.store (K1 13) (.t 5) (.t 6))] [6]) (
 sq (sq (.reg [
 O 7 (.mov (.t 1)),
 O 8 (.bin .eql (.t 7) (.c (I 2))),
 O 9 (.mov (.t 8)),
 OG 10 9 true (.mov (.t 0)),
 OG 11 9 true (.call 0 66 [(.t 10)]),
 O 12 (.pick (.t 9) (.t 11) (.c (.b false)))] [11, 0, 10, 9, 8, 7]) (
 .cond (.t 12) (sq (.reg [
 O 4 (.mov (.c (I 29)))] []) (
 .ret))
 (.skip))) (
 sq (.reg [
 O 13 (.mov (.t 1)),
 O 14 (.iaddrA 13 K0 (.t 5) (.t 13)),
 O 15 (.load K0 (.t 14)),
 O 4 (.mov (.t 15))] [15, 5, 14, 1, 13]) (
 .ret))))⟩
def F110 : PF := ⟨1, [.t 2],
 sq (.reg [
 O 2 (.mov (.c (.l (K1 3) [] true)))] [2]) (
 sq (.reg [
 O 4 (.mov (.t 0)),
 O 5 (.call 1 179 [(.c (.l (K1 3) [] true)), (.t 4)]),
 O 3 (.mov (.t 5))] [5, 0, 4]) (
 sq (.reg [
 O 6 (.mov (.t 3)),
 O 7 (.call 2 180 [(.t 6), (.f 181)]),
 O 2 (.mov (.t 7))] [7, 3, 6]) (
 .ret)))⟩
def L179_0 : PC :=
 sq (.reg [
 O 12 (.bin .lss (.t 11) (.t 10))] []) (
 sq (.cond (.t 12) (.skip)
 (.exit 0)) (
 sq (.block 1 (
 sq (.reg [
 O 13 (.iaddr (K1 3) (.t 9) (.t 11)),
 O 14 (.load (K1 3) (.t 13)),
 O 6 (.alloc (K1 3) (.a [(I 0), (I 0), (.s [])])),
 E (.store (K1 3) (.t 6) (.t 14))] [14, 13]) (
 sq (.reg [
 O 16 (.mov (.t 0)),
 O 17 (.load (K1 3) (.t 6)),
 O 18 (.call 2 262 [(.t 16), (.t 17), (.f 263)]),
 O 15 (.mov (.t 18)),
 O 19 (.ext (.t 15) 0),
 O 20 (.ext (.t 15) 1),
 O 7 (.mov (.t 19)),
 O 8 (.mov (.t 20))] [20, 19, 15, 18, 17, 16]) (
 sq (.reg [
 O 21 (.mov (.t 8))] [8]) (
 .cond (.t 21) (.regD [
 O 22 (.mov (.t 0)),
 O 23 (.mov (.t 7)),
 O 24 (.iaddr (K1 3) (.t 22) (.t 23)),
 O 25 (.faddr 1 (.t 24)),
 O 26 (.load K0 (.t 25)),
 O 27 (.faddr 1 (.t 6)),
 O 28 (.load K0 (.t 27)),
 O 29 (.bin .add (.t 26) (.t 28)),
 O 30 (.iaddr (K1 3) (.t 22) (.t 23)),
 O 31 (.faddr 1 (.t 30)),
 E (.store K0 (.t 31) (.t 29))] [0, 0, 3, 7, 15, 0, 32, 127, 255, 511, 1023] [31, 30, 29, 28, 6, 27, 26, 25, 24, 7, 23, 22])
 (.reg [
 O 32 (.mov (.t 0)),
 O 33 (.mov (.t 7)),
 O 34 (.load (K1 3) (.t 6)),
 O 35 (.bsl (K1 3) (.a [(I 0), (I 0), (.s [])]) 1 [(0, (.t 34))]),
 O 36 (.call 2 264 [(.t 32), (.t 33), (.t 35)]),
 O 0 (.mov (.t 36))] [36, 35, 6, 34, 7, 33, 32])))))) (
 .reg [
 O 37 (.bin .add (.t 11) (.c (I 1))),
 O 11 (.mov (.t 37))] [37])))
def F179 : PF := ⟨2, [.t 4],
 sq (.reg [
 O 4 (.mov (.c (.l (K1 3) [] true)))] [4]) (
 sq (sq (.reg [
 O 9 (.mov (.t 1)),
 O 10 (.len false (.t 9)),
 O 11 (.mov (.c (I 0)))] [1]) (
 .block 0 (
 .loop [0, 9, 10, 11] L179_0))) (
 sq (.reg [
 O 38 (.mov (.t 0)),
 O 4 (.mov (.t 38))] [0, 38]) (
 .ret)))⟩
def L180_0 : PC :=
 sq (sq (.reg [
 O 16 (.mov (.t 6)),
 O 17 (.mov (.t 0)),
 O 18 (.len false (.t 17)),
 O 19 (.bin .lss (.t 16) (.t 18))] [18, 17, 16]) (
 .cond (.t 19) (.skip)
 (.exit 0))) (
 sq (.block 1 (
 sq (.reg [
 O 22 (.mov (.t 0)),
 O 23 (.mov (.t 6)),
 O 24 (.iaddr (K1 3) (.t 22) (.t 23)),
 O 25 (.load (K1 3) (.t 24)),
 O 7 (.alloc (K1 3) (.a [(I 0), (I 0), (.s [])])),
 E (.store (K1 3) (.t 7) (.t 25))] [25, 24, 23, 22]) (
 sq (.reg [
 O 26 (.mov (.t 1)),
 O 27 (.load (K1 3) (.t 7)),
 O 28 (.callv (.t 26) [(.t 27)]),
 O 29 (.un .not (.t 28))] [28, 27, 26]) (
 .cond (.t 29) (sq (.reg [
 O 30 (.mov (.t 0)),
 O 31 (.mov (.t 5)),
 O 32 (.load (K1 3) (.t 7)),
 O 33 (.iaddr (K1 3) (.t 30) (.t 31)),
 E (.store (K1 3) (.t 33) (.t 32))] [33, 7, 32, 31, 30]) (
 .reg [
 O 34 (.mov (.t 5)),
 O 35 (.bin .add (.t 34) (.c (I 1))),
 O 5 (.mov (.t 35))] [35, 34]))
 (.skip))))) (
 .reg [
 O 20 (.mov (.t 6)),
 O 21 (.bin .add (.t 20) (.c (I 1))),
 O 6 (.mov (.t 21))] [21, 20]))
def F180 : PF := ⟨2, [.t 4],
 sq (.reg [
 O 4 (.mov (.c (.l (K1 3) [] true)))] [4]) (
 sq (.reg [
 O 8 (.mov (.t 0)),
 O 9 (.mov (.t 1)),
 O 10 (.call 2 265 [(.t 8), (.t 9)]),
 O 5 (.mov (.t 10))] [10, 9, 8]) (
 sq (sq (.reg [
 O 11 (.mov (.t 5)),
 O 12 (.bin .eql (.t 11) (.c (I (-1))))] [11]) (
 .cond (.t 12) (sq (.reg [
 O 13 (.mov (.t 0)),
 O 4 (.mov (.t 13))] [0, 13]) (
 .ret))
 (.skip))) (
 sq (sq (.reg [
 O 14 (.mov (.t 5)),
 O 15 (.bin .add (.t 14) (.c (I 1))),
 O 6 (.mov (.t 15))] [15, 14]) (
 .block 0 (
 .loop [0, 1, 5, 6] L180_0))) (
 sq (.reg [
 O 36 (.mov (.t 0)),
 O 37 (.mov (.t 5)),
 O 38 (.sl (K1 3) (.t 36) (some (.t 37)) none none),
 E (.clr (K1 3) (.a [(I 0), (I 0), (.s [])]) (.t 38))] [38, 37, 36]) (
 sq (.reg [
 O 39 (.mov (.t 0)),
 O 40 (.mov (.t 5)),
 O 41 (.sl (K1 3) (.t 39) none (some (.t 40)) none),
 O 4 (.mov (.t 41))] [41, 5, 40, 0, 39]) (
 .ret))))))⟩
def F181 : PF := ⟨1, [.t 2],
 sq (.reg [
 O 1 (.box (K1 3) (.t 0)),
 O 2 (.mov (.c (.b false)))] [2, 0]) (
 sq (.reg [
 O 3 (.faddr 1 (.t 1)),
 O 4 (.load K0 (.t 3)),
 O 5 (.bin .eql (.t 4) (.c (I 0))),
 O 2 (.mov (.t 5))] [5, 4, 1, 3]) (
 .ret))⟩
def L262_0 : PC :=
 sq (sq (.reg [
 O 15 (.mov (.t 9)),
 O 16 (.mov (.t 10)),
 O 17 (.bin .lss (.t 15) (.t 16))] [16, 15]) (
 .cond (.t 17) (.skip)
 (.exit 0))) (
 .block 1 (
 sq (.reg [
 O 18 (.mov (.t 9)),
 O 19 (.mov (.t 10)),
 O 20 (.bin .add (.t 18) (.t 19)),
 O 21 (.conv .u64 (.t 20)),
 O 22 (.bin .shr (.t 21) (.c (.i .u64 1))),
 O 23 (.conv .i64 (.t 22)),
 O 11 (.mov (.t 23))] [23, 22, 21, 20, 19, 18]) (
 sq (.regD [
 O 24 (.mov (.t 2)),
 O 25 (.mov (.t 0)),
 O 26 (.mov (.t 11)),
 O 27 (.iaddr (K1 3) (.t 25) (.t 26)),
 O 28 (.load (K1 3) (.t 27)),
 O 29 (.load (K1 3) (.t 4)),
 O 30 (.callv (.t 24) [(.t 28), (.t 29)]),
 O 31 (.bin .lss (.t 30) (.c (I 0)))] [0, 0, 0, 6, 14, 0, 63, 127] [30, 29, 28, 27, 26, 25, 24]) (
 .cond (.t 31) (.reg [
 O 32 (.mov (.t 11)),
 O 33 (.bin .add (.t 32) (.c (I 1))),
 O 9 (.mov (.t 33))] [33, 11, 32])
 (.reg [
 O 34 (.mov (.t 11)),
 O 10 (.mov (.t 34))] [11, 34])))))
def F262 : PF := ⟨3, [.t 6, .t 7],
 sq (.reg [
 O 4 (.box (K1 3) (.t 1)),
 O 6 (.mov (.c (I 0))),
 O 7 (.mov (.c (.b false)))] [7, 6, 1]) (
 sq (.reg [
 O 12 (.mov (.t 0)),
 O 13 (.len false (.t 12)),
 O 8 (.mov (.t 13))] [13, 12]) (
 sq (.reg [
 O 14 (.mov (.t 8)),
 O 9 (.mov (.c (I 0))),
 O 10 (.mov (.t 14))] [14]) (
 sq (.block 0 (
 .loop [0, 2, 4, 8, 9, 10] L262_0)) (
 sq (.regD [
 O 35 (.mov (.t 9)),
 O 36 (.mov (.t 9)),
 O 37 (.mov (.t 8)),
 O 38 (.bin .lss (.t 36) (.t 37)),
 O 39 (.mov (.t 38)),
 OG 40 39 true (.mov (.t 2)),
 OG 41 39 true (.mov (.t 0)),
 OG 42 39 true (.mov (.t 9)),
 OG 43 39 true (.iaddr (K1 3) (.t 41) (.t 42)),
 OG 44 39 true (.load (K1 3) (.t 43)),
 OG 45 39 true (.load (K1 3) (.t 4)),
 OG 46 39 true (.callv (.t 40) [(.t 44), (.t 45)]),
 OG 47 39 true (.bin .eql (.t 46) (.c (I 0))),
 O 48 (.pick (.t 39) (.t 47) (.c (.b false))),
 O 6 (.mov (.t 35)),
 O 7 (.mov (.t 48))] [0, 0, 0, 6, 14, 30, 30, 30, 222, 478, 30, 2046, 4094, 8190, 4095, 32767] [48, 47, 46, 4, 45, 44, 43, 42, 0, 41, 2, 40, 39, 38, 8, 37, 36, 9, 35]) (
 .ret)))))⟩
def F263 : PF := ⟨2, [.t 4],
 sq (.reg [
 O 2 (.box (K1 3) (.t 0)),
 O 3 (.box (K1 3) (.t 1)),
 O 4 (.mov (.c (I 0)))] [4, 1, 0]) (
 sq (.regD [
 O 5 (.faddr 0 (.t 2)),
 O 6 (.load K0 (.t 5)),
 O 7 (.faddr 0 (.t 3)),
 O 8 (.load K0 (.t 7)),
 O 9 (.call 0 342 [(.t 6), (.t 8)]),
 O 10 (.faddr 2 (.t 2)),
 O 11 (.load K0 (.t 10)),
 O 12 (.faddr 2 (.t 3)),
 O 13 (.load K0 (.t 12)),
 O 14 (.call 0 268 [(.t 11), (.t 13)]),
 O 15 (.bsl K0 (I 0) 2 [(0, (.t 9)), (1, (.t 14))]),
 O 16 (.call 0 341 [(.t 15)]),
 O 4 (.mov (.t 16))] [0, 1, 0, 4, 15, 0, 32, 0, 128, 511, 1023, 2047, 4095] [16, 15, 14, 13, 12, 11, 10, 9, 8, 3, 7, 6, 2, 5]) (
 .ret))⟩
def F265 : PF := FidxG (K1 3)
def F268 : PF := ⟨2, [.t 4],
 sq (.reg [
 O 4 (.mov (.c (I 0)))] [4]) (
 sq (.reg [
 O 7 (.mov (.t 0)),
 O 8 (.call 0 344 [(.t 7)]),
 O 5 (.mov (.t 8))] [8, 7]) (
 sq (.reg [
 O 9 (.mov (.t 1)),
 O 10 (.call 0 344 [(.t 9)]),
 O 6 (.mov (.t 10))] [10, 9]) (
 sq (sq (.reg [
 O 11 (.mov (.t 5))] [5]) (
 .cond (.t 11) (sq (sq (.reg [
 O 12 (.mov (.t 6))] [6]) (
 .cond (.t 12) (sq (.reg [
 O 4 (.mov (.c (I 0)))] []) (
 .ret))
 (.skip))) (
 sq (.reg [
 O 4 (.mov (.c (I (-1))))] []) (
 .ret)))
 (.skip))) (
 sq (sq (.reg [
 O 13 (.mov (.t 6))] [6]) (
 .cond (.t 13) (sq (.reg [
 O 4 (.mov (.c (I 1)))] []) (
 .ret))
 (.skip))) (
 sq (sq (.reg [
 O 14 (.mov (.t 0)),
 O 15 (.mov (.t 1)),
 O 16 (.bin .lss (.t 14) (.t 15))] [15, 14]) (
 .cond (.t 16) (sq (.reg [
 O 4 (.mov (.c (I (-1))))] []) (
 .ret))
 (.skip))) (
 sq (sq (.reg [
 O 17 (.mov (.t 0)),
 O 18 (.mov (.t 1)),
 O 19 (.bin .gtr (.t 17) (.t 18))] [1, 18, 0, 17]) (
 .cond (.t 19) (sq (.reg [
 O 4 (.mov (.c (I 1)))] []) (
 .ret))
 (.skip))) (
 sq (.reg [
 O 4 (.mov (.c (I 0)))] []) (
 .ret))))))))⟩
def L341_0 : PC :=
 sq (.reg [
 O 9 (.bin .lss (.t 8) (.t 7))] []) (
 sq (.cond (.t 9) (.skip)
 (.exit 0)) (
 sq (.block 1 (
 sq (.reg [
 O 10 (.iaddr K0 (.t 6) (.t 8)),
 O 11 (.load K0 (.t 10)),
 O 5 (.mov (.t 11))] [11, 10]) (
 sq (.reg [
 O 12 (.mov (.t 5)),
 O 13 (.mov (.t 3)),
 O 14 (.bin .neq (.t 12) (.t 13))] [13, 12]) (
 .cond (.t 14) (sq (.reg [
 O 15 (.mov (.t 5)),
 O 2 (.mov (.t 15))] [5, 15]) (
 .ret))
 (.skip))))) (
 .reg [
 O 16 (.bin .add (.t 8) (.c (I 1))),
 O 8 (.mov (.t 16))] [16])))
def F341 : PF := ⟨1, [.t 2],
 sq (.reg [
 O 2 (.mov (.c (I 0)))] [2]) (
 sq (.reg [
 O 3 (.mov (.c (I 0)))] []) (
 sq (sq (.reg [
 O 6 (.mov (.t 0)),
 O 7 (.len false (.t 6)),
 O 8 (.mov (.c (I 0)))] [0]) (
 .block 0 (
 .loop [3, 6, 7, 8] L341_0))) (
 sq (.reg [
 O 17 (.mov (.t 3)),
 O 2 (.mov (.t 17))] [3, 17]) (
 .ret))))⟩
def F342 : PF := ⟨2, [.t 4],
 sq (.reg [
 O 4 (.mov (.c (I 0)))] [4]) (
 sq (.reg [
 O 7 (.mov (.t 0)),
 O 8 (.call 0 382 [(.t 7)]),
 O 5 (.mov (.t 8))] [8, 7]) (
 sq (.reg [
 O 9 (.mov (.t 1)),
 O 10 (.call 0 382 [(.t 9)]),
 O 6 (.mov (.t 10))] [10, 9]) (
 sq (sq (.reg [
 O 11 (.mov (.t 5))] [5]) (
 .cond (.t 11) (sq (sq (.reg [
 O 12 (.mov (.t 6))] [6]) (
 .cond (.t 12) (sq (.reg [
 O 4 (.mov (.c (I 0)))] []) (
 .ret))
 (.skip))) (
 sq (.reg [
 O 4 (.mov (.c (I (-1))))] []) (
 .ret)))
 (.skip))) (
 sq (sq (.reg [
 O 13 (.mov (.t 6))] [6]) (
 .cond (.t 13) (sq (.reg [
 O 4 (.mov (.c (I 1)))] []) (
 .ret))
 (.skip))) (
 sq (sq (.reg [
 O 14 (.mov (.t 0)),
 O 15 (.mov (.t 1)),
 O 16 (.bin .lss (.t 14) (.t 15))] [15, 14]) (
 .cond (.t 16) (sq (.reg [
 O 4 (.mov (.c (I (-1))))] []) (
 .ret))
 (.skip))) (
 sq (sq (.reg [
 O 17 (.mov (.t 0)),
 O 18 (.mov (.t 1)),
 O 19 (.bin .gtr (.t 17) (.t 18))] [1, 18, 0, 17]) (
 .cond (.t 19) (sq (.reg [
 O 4 (.mov (.c (I 1)))] []) (
 .ret))
 (.skip))) (
 sq (.reg [
 O 4 (.mov (.c (I 0)))] []) (
 .ret))))))))⟩
def F344 : PF := ⟨1, [.t 2],
 sq (.reg [
 O 2 (.mov (.c (.b false)))] [2]) (
 sq (.reg [
 O 3 (.mov (.t 0)),
 O 4 (.mov (.t 0)),
 O 5 (.bin .neq (.t 3) (.t 4)),
 O 2 (.mov (.t 5))] [5, 4, 0, 3]) (
 .ret))⟩
def L371_0 : PC :=
 sq (.reg [
 O 8 (.bin .lss (.t 7) (.c (I 4)))] []) (
 sq (.cond (.t 8) (.skip)
 (.exit 0)) (
 sq (.block 1 (
 sq (.reg [
 O 9 (.idxA 4 K0 (.t 6) (.t 7)),
 O 3 (.mov (.t 9))] [9]) (
 .reg [
 O 10 (.mov (.t 1)),
 O 11 (.mov (.t 3)),
 O 12 (.agg [(.s []), (I 0)] [(0, K0, (.t 11)), (1, K0, (.c (I 2)))]),
 O 13 (.bsl (K1 2) (.a [(.s []), (I 0)]) 1 [(0, (.t 12))]),
 O 14 (.app (K1 2) 24 (.t 10) (.t 13)),
 O 1 (.mov (.t 14))] [14, 13, 12, 3, 11, 10]))) (
 .reg [
 O 15 (.bin .add (.t 7) (.c (I 1))),
 O 7 (.mov (.t 15))] [15])))
def L371_1 : PC :=
 sq (.reg [
 O 18 (.bin .lss (.t 17) (.c (I 2)))] []) (
 sq (.cond (.t 18) (.skip)
 (.exit 2)) (
 sq (.block 3 (
 sq (.reg [
 O 19 (.idxA 2 K0 (.t 16) (.t 17)),
 O 5 (.mov (.t 19))] [19]) (
 .reg [
 O 20 (.mov (.t 1)),
 O 21 (.mov (.t 5)),
 O 22 (.agg [(.s []), (I 0)] [(0, K0, (.t 21)), (1, K0, (.c (I 1)))]),
 O 23 (.bsl (K1 2) (.a [(.s []), (I 0)]) 1 [(0, (.t 22))]),
 O 24 (.app (K1 2) 24 (.t 20) (.t 23)),
 O 1 (.mov (.t 24))] [24, 23, 22, 5, 21, 20]))) (
 .reg [
 O 25 (.bin .add (.t 17) (.c (I 1))),
 O 17 (.mov (.t 25))] [25])))
def F371 : PF := ⟨0, [.t 0],
 sq (.reg [
 O 0 (.mov (.c (.l (K1 2) [] true)))] [0]) (
 sq (.reg [
 O 1 (.mov (.c (.l (K1 2) [] true)))] []) (
 sq (sq (.reg [
 O 6 (.agg [(.s []), (.s []), (.s []), (.s [])] [(0, K0, (.c (.s [98, 97, 108, 97, 110, 99, 101]))), (1, K0, (.c (.s [108, 111, 119, 101, 115, 116]))), (2, K0, (.c (.s [118, 111, 108, 117, 109, 101]))), (3, K0, (.c (.s [97, 109, 111, 117, 110, 116])))]),
 O 7 (.mov (.c (I 0)))] []) (
 .block 0 (
 .loop [1, 6, 7] L371_0))) (
 sq (sq (.reg [
 O 16 (.agg [(.s []), (.s [])] [(0, K0, (.c (.s [99, 111, 117, 110, 116]))), (1, K0, (.c (.s [97, 103, 101])))]),
 O 17 (.mov (.c (I 0)))] []) (
 .block 2 (
 .loop [1, 16, 17] L371_1))) (
 sq (.reg [
 O 26 (.mov (.t 1)),
 O 27 (.agg [(.s []), (I 0)] [(0, K0, (.c (.s [100, 97, 121]))), (1, K0, (.c (I 4)))]),
 O 28 (.bsl (K1 2) (.a [(.s []), (I 0)]) 1 [(0, (.t 27))]),
 O 29 (.app (K1 2) 24 (.t 26) (.t 28)),
 O 0 (.mov (.t 29))] [29, 28, 27, 1, 26]) (
 .ret)))))⟩
def F382 : PF := ⟨1, [.t 2],
 sq (.reg [
 O 2 (.mov (.c (.b false)))] [2]) (
 sq (.reg [
 O 3 (.mov (.t 0)),
 O 4 (.mov (.t 0)),
 O 5 (.bin .neq (.t 3) (.t 4)),
 O 2 (.mov (.t 5))] [5, 4, 0, 3]) (
 .ret))⟩
def F387 : PF := ⟨2, [.t 4, .t 5],
 sq (.reg [
 O 2 (.box (K1 4) (.t 0)),
 O 4 (.mov (.c (I 0))),
 O 5 (.mov (.c (I 0)))] [5, 4, 0]) (
 sq (sq (.reg [
 O 7 (.load (K1 4) (.t 2)),
 O 8 (.call 0 399 [(.t 7)]),
 O 6 (.mov (.t 8))] [8, 7]) (
 sq (.reg [
 O 9 (.mov (.t 6)),
 O 10 (.bin .neq (.t 9) (.c (I 0)))] [9]) (
 .cond (.t 10) (sq (.reg [
 O 11 (.mov (.t 6)),
 O 4 (.mov (.c (I 0))),
 O 5 (.mov (.t 11))] [6, 11]) (
 .ret))
 (.skip)))) (
 sq (.reg [
 O 12 (.load (K1 4) (.t 2)),
 O 13 (.mov (.t 1)),
 O 14 (.call 0 400 [(.t 12), (.t 13)]),
 O 15 (.ext (.t 14) 0),
 O 16 (.ext (.t 14) 1),
 O 4 (.mov (.t 15)),
 O 5 (.mov (.t 16))] [16, 15, 14, 1, 13, 2, 12]) (
 .ret)))⟩
def F399 : PF := ⟨1, [.t 2],
 sq (.reg [
 O 1 (.box (K1 4) (.t 0)),
 O 2 (.mov (.c (I 0)))] [2, 0]) (
 sq (.block 0 (
 sq (.reg [
 O 4 (.load (K1 4) (.t 1)),
 O 5 (.call 0 405 [(.t 4)]),
 O 6 (.bin .gtr (.t 5) (.c (I 64))),
 O 7 (.mov (.t 6)),
 OG 8 7 false (.load (K1 4) (.t 1)),
 OG 9 7 false (.call 0 406 [(.t 8)]),
 OG 10 7 false (.bin .gtr (.t 9) (.c (I 8))),
 O 11 (.pick (.t 7) (.c (.b true)) (.t 10)),
 O 3 (.mov (.t 11))] [11, 10, 9, 8, 7, 6, 5, 4]) (
 .cond (.t 3) (sq (.reg [
 O 2 (.mov (.c (I 5)))] []) (
 .ret))
 (sq (.reg [
 O 13 (.load (K1 4) (.t 1)),
 O 14 (.call 2 407 [(.t 13), (.f 408)]),
 O 15 (.un .not (.t 14)),
 O 12 (.mov (.t 15))] [15, 14, 13]) (
 .cond (.t 12) (sq (.reg [
 O 2 (.mov (.c (I 1)))] []) (
 .ret))
 (sq (.reg [
 O 17 (.load (K1 4) (.t 1)),
 O 18 (.call 2 407 [(.t 17), (.f 409)]),
 O 19 (.un .not (.t 18)),
 O 16 (.mov (.t 19))] [19, 18, 1, 17]) (
 .cond (.t 16) (sq (.reg [
 O 2 (.mov (.c (I 4)))] []) (
 .ret))
 (.skip)))))))) (
 sq (.reg [
 O 2 (.mov (.c (I 0)))] []) (
 .ret)))⟩
def L400_0 : PC :=
 sq (.reg [
 O 33 (.bin .lss (.t 32) (.t 31))] []) (
 sq (.cond (.t 33) (.skip)
 (.exit 1)) (
 sq (.block 2 (
 sq (.reg [
 O 34 (.iaddr (K1 4) (.t 30) (.t 32)),
 O 35 (.load (K1 4) (.t 34)),
 O 8 (.alloc (K1 4) (.a [(I 0), (I 0), (.s []), (.l (K1 4) [] true)])),
 E (.store (K1 4) (.t 8) (.t 35))] [35, 34]) (
 sq (.reg [
 O 37 (.load (K1 4) (.t 8)),
 O 38 (.mov (.t 1)),
 O 39 (.call 0 400 [(.t 37), (.t 38)]),
 O 36 (.mov (.t 39)),
 O 40 (.ext (.t 36) 0),
 O 41 (.ext (.t 36) 1),
 O 9 (.mov (.t 40)),
 O 10 (.mov (.t 41))] [41, 40, 36, 39, 38, 8, 37]) (
 sq (sq (.reg [
 O 42 (.mov (.t 10)),
 O 43 (.bin .neq (.t 42) (.c (I 0)))] [42]) (
 .cond (.t 43) (sq (.reg [
 O 44 (.mov (.t 10)),
 O 4 (.mov (.c (I 0))),
 O 5 (.mov (.t 44))] [10, 44]) (
 .ret))
 (.skip))) (
 .reg [
 O 45 (.mov (.t 6)),
 O 46 (.mov (.t 9)),
 O 47 (.bsl K0 (I 0) 1 [(0, (.t 46))]),
 O 48 (.app K0 8 (.t 45) (.t 47)),
 O 6 (.mov (.t 48))] [48, 47, 9, 46, 45]))))) (
 .reg [
 O 49 (.bin .add (.t 32) (.c (I 1))),
 O 32 (.mov (.t 49))] [49])))
def F400 : PF := ⟨2, [.t 4, .t 5],
 sq (.reg [
 O 2 (.box (K1 4) (.t 0)),
 O 4 (.mov (.c (I 0))),
 O 5 (.mov (.c (I 0)))] [5, 4, 0]) (
 sq (sq (.reg [
 O 13 (.faddr 0 (.t 2)),
 O 14 (.load K0 (.t 13))] [13]) (
 .block 0 (
 sq (.reg [
 O 16 (.bin .eql (.t 14) (.c (I 1))),
 O 15 (.mov (.t 16))] [16]) (
 .cond (.t 15) (sq (.reg [
 O 4 (.mov (.c (I 1))),
 O 5 (.mov (.c (I 0)))] []) (
 .ret))
 (sq (.reg [
 O 18 (.bin .eql (.t 14) (.c (I 2))),
 O 17 (.mov (.t 18))] [18]) (
 .cond (.t 17) (sq (.reg [
 O 4 (.mov (.c (I 2))),
 O 5 (.mov (.c (I 0)))] []) (
 .ret))
 (sq (.reg [
 O 20 (.bin .eql (.t 14) (.c (I 3))),
 O 19 (.mov (.t 20))] [20]) (
 .cond (.t 19) (sq (.reg [
 O 4 (.mov (.c (I 3))),
 O 5 (.mov (.c (I 0)))] []) (
 .ret))
 (sq (.reg [
 O 22 (.bin .eql (.t 14) (.c (I 4))),
 O 21 (.mov (.t 22))] [14, 22]) (
 .cond (.t 21) (sq (.reg [
 O 23 (.faddr 2 (.t 2)),
 O 24 (.load K0 (.t 23)),
 O 25 (.mov (.t 1)),
 O 26 (.call 0 410 [(.t 24), (.t 25)]),
 O 27 (.ext (.t 26) 0),
 O 28 (.ext (.t 26) 1),
 O 4 (.mov (.t 27)),
 O 5 (.mov (.t 28))] [28, 27, 26, 1, 25, 24, 2, 23]) (
 .ret))
 (.skip))))))))))) (
 sq (.reg [
 O 6 (.mov (.c (.l K0 [] true)))] []) (
 sq (sq (.reg [
 O 29 (.faddr 3 (.t 2)),
 O 30 (.load K0 (.t 29)),
 O 31 (.len false (.t 30)),
 O 32 (.mov (.c (I 0)))] [29]) (
 .block 1 (
 .loop [1, 2, 6, 30, 31, 32] L400_0))) (
 sq (.reg [
 O 51 (.faddr 0 (.t 2)),
 O 52 (.load K0 (.t 51)),
 O 53 (.mov (.t 6)),
 O 54 (.call 0 411 [(.t 52), (.t 53)]),
 O 50 (.mov (.t 54)),
 O 55 (.ext (.t 50) 0),
 O 56 (.ext (.t 50) 1),
 O 11 (.mov (.t 55)),
 O 12 (.mov (.t 56))] [56, 55, 50, 54, 6, 53, 52, 2, 51]) (
 sq (sq (.reg [
 O 57 (.mov (.t 12)),
 O 58 (.un .not (.t 57))] [12, 57]) (
 .cond (.t 58) (sq (.reg [
 O 4 (.mov (.c (I 0))),
 O 5 (.mov (.c (I 3)))] []) (
 .ret))
 (.skip))) (
 sq (.reg [
 O 59 (.mov (.t 11)),
 O 4 (.mov (.t 59)),
 O 5 (.mov (.c (I 0)))] [11, 59]) (
 .ret)))))))⟩
def L405_0 : PC :=
 sq (.reg [
 O 10 (.bin .lss (.t 9) (.t 8))] []) (
 sq (.cond (.t 10) (.skip)
 (.exit 0)) (
 sq (.block 1 (
 sq (.reg [
 O 11 (.iaddr (K1 4) (.t 7) (.t 9)),
 O 12 (.load (K1 4) (.t 11)),
 O 5 (.alloc (K1 4) (.a [(I 0), (I 0), (.s []), (.l (K1 4) [] true)])),
 E (.store (K1 4) (.t 5) (.t 12))] [12, 11]) (
 .reg [
 O 13 (.mov (.t 3)),
 O 14 (.load (K1 4) (.t 5)),
 O 15 (.call 0 405 [(.t 14)]),
 O 16 (.bin .add (.t 13) (.t 15)),
 O 3 (.mov (.t 16))] [16, 15, 5, 14, 13]))) (
 .reg [
 O 17 (.bin .add (.t 9) (.c (I 1))),
 O 9 (.mov (.t 17))] [17])))
def F405 : PF := ⟨1, [.t 2],
 sq (.reg [
 O 1 (.box (K1 4) (.t 0)),
 O 2 (.mov (.c (I 0)))] [2, 0]) (
 sq (.reg [
 O 3 (.mov (.c (I 1)))] []) (
 sq (sq (.reg [
 O 6 (.faddr 3 (.t 1)),
 O 7 (.load K0 (.t 6)),
 O 8 (.len false (.t 7)),
 O 9 (.mov (.c (I 0)))] [1, 6]) (
 .block 0 (
 .loop [3, 7, 8, 9] L405_0))) (
 sq (.reg [
 O 18 (.mov (.t 3)),
 O 2 (.mov (.t 18))] [3, 18]) (
 .ret))))⟩
def L406_0 : PC :=
 sq (.reg [
 O 10 (.bin .lss (.t 9) (.t 8))] []) (
 sq (.cond (.t 10) (.skip)
 (.exit 0)) (
 sq (.block 1 (
 sq (.reg [
 O 11 (.iaddr (K1 4) (.t 7) (.t 9)),
 O 12 (.load (K1 4) (.t 11)),
 O 5 (.alloc (K1 4) (.a [(I 0), (I 0), (.s []), (.l (K1 4) [] true)])),
 E (.store (K1 4) (.t 5) (.t 12))] [12, 11]) (
 .reg [
 O 13 (.mov (.t 3)),
 O 14 (.load (K1 4) (.t 5)),
 O 15 (.call 0 406 [(.t 14)]),
 O 16 (.minmax true [(.t 13), (.t 15)]),
 O 3 (.mov (.t 16))] [16, 15, 5, 14, 13]))) (
 .reg [
 O 17 (.bin .add (.t 9) (.c (I 1))),
 O 9 (.mov (.t 17))] [17])))
def F406 : PF := ⟨1, [.t 2],
 sq (.reg [
 O 1 (.box (K1 4) (.t 0)),
 O 2 (.mov (.c (I 0)))] [2, 0]) (
 sq (.reg [
 O 3 (.mov (.c (I 0)))] []) (
 sq (sq (.reg [
 O 6 (.faddr 3 (.t 1)),
 O 7 (.load K0 (.t 6)),
 O 8 (.len false (.t 7)),
 O 9 (.mov (.c (I 0)))] [1, 6]) (
 .block 0 (
 .loop [3, 7, 8, 9] L406_0))) (
 sq (.reg [
 O 18 (.mov (.t 3)),
 O 19 (.bin .add (.t 18) (.c (I 1))),
 O 2 (.mov (.t 19))] [19, 3, 18]) (
 .ret))))⟩
def F407 : PF := ⟨2, [.t 4],
 sq (.reg [
 O 2 (.box (K1 4) (.t 0)),
 O 3 (.box K0 (.t 1)),
 O 4 (.mov (.c (.b false)))] [4, 1, 0]) (
 sq (.reg [
 O 5 (.load K0 (.t 3)),
 O 6 (.load (K1 4) (.t 2)),
 O 7 (.callv (.t 5) [(.t 6)]),
 O 8 (.mov (.t 7)),
 OG 9 8 true (.faddr 3 (.t 2)),
 OG 10 8 true (.load K0 (.t 9)),
 OG 11 8 true (.mkf 413 [(.t 3)]),
 OG 12 8 true (.call 2 412 [(.t 10), (.t 11)]),
 OG 13 8 true (.un .not (.t 12)),
 O 14 (.pick (.t 8) (.t 13) (.c (.b false))),
 O 4 (.mov (.t 14))] [14, 13, 12, 11, 10, 9, 8, 7, 2, 6, 3, 5]) (
 .ret))⟩
def F408 : PF := ⟨1, [.t 2],
 sq (.reg [
 O 1 (.box (K1 4) (.t 0)),
 O 2 (.mov (.c (.b false)))] [2, 0]) (
 sq (.reg [
 O 3 (.mov (.c (I 0)))] []) (
 sq (sq (.reg [
 O 4 (.faddr 0 (.t 1)),
 O 5 (.load K0 (.t 4))] [4]) (
 .block 0 (
 sq (.reg [
 O 7 (.bin .eql (.t 5) (.c (I 1))),
 O 6 (.mov (.t 7))] [7]) (
 .cond (.t 6) (.reg [
 O 3 (.mov (.c (I 9223372036854775807)))] [])
 (sq (.reg [
 O 9 (.bin .eql (.t 5) (.c (I 2))),
 O 8 (.mov (.t 9))] [9]) (
 .cond (.t 8) (.reg [
 O 3 (.mov (.c (I 1000000000000)))] [])
 (sq (.reg [
 O 11 (.bin .eql (.t 5) (.c (I 3))),
 O 10 (.mov (.t 11))] [5, 11]) (
 .cond (.t 10) (.reg [
 O 3 (.mov (.c (I 1000000)))] [])
 (.skip))))))))) (
 sq (.regD [
 O 12 (.faddr 0 (.t 1)),
 O 13 (.load K0 (.t 12)),
 O 14 (.call 0 414 [(.t 13)]),
 O 15 (.faddr 3 (.t 1)),
 O 16 (.load K0 (.t 15)),
 O 17 (.len false (.t 16)),
 O 18 (.bin .eql (.t 14) (.t 17)),
 O 19 (.mov (.t 18)),
 OG 20 19 true (.faddr 1 (.t 1)),
 OG 21 19 true (.load K0 (.t 20)),
 OG 22 19 true (.bin .geq (.t 21) (.c (I 0))),
 O 23 (.pick (.t 19) (.t 22) (.c (.b false))),
 O 24 (.mov (.t 23)),
 OG 25 24 true (.faddr 1 (.t 1)),
 OG 26 24 true (.load K0 (.t 25)),
 OG 27 24 true (.mov (.t 3)),
 OG 28 24 true (.bin .leq (.t 26) (.t 27)),
 O 29 (.pick (.t 24) (.t 28) (.c (.b false))),
 O 30 (.mov (.t 29)),
 OG 31 30 true (.faddr 2 (.t 1)),
 OG 32 30 true (.load K0 (.t 31)),
 OG 33 30 true (.bin .eql (.t 32) (.c (.s []))),
 OG 34 30 true (.mov (.t 33)),
 OG 35 34 false (.faddr 0 (.t 1)),
 OG 36 34 false (.load K0 (.t 35)),
 OG 37 34 false (.bin .eql (.t 36) (.c (I 4))),
 OG 38 30 true (.pick (.t 34) (.c (.b true)) (.t 37)),
 O 39 (.pick (.t 30) (.t 38) (.c (.b false))),
 O 2 (.mov (.t 39))] [0, 1, 3, 0, 8, 24, 63, 127, 255, 511, 1023, 2047, 4095, 8191, 16383, 8191, 65535, 131071, 262143, 524287, 1048575, 2097151, 4194303, 8388607, 16777215, 33554431, 67108863, 134217727, 268435455] [39, 38, 37, 36, 35, 34, 33, 32, 31, 30, 29, 28, 3, 27, 26, 25, 24, 23, 22, 21, 20, 19, 18, 17, 16, 15, 14, 13, 1, 12]) (
 .ret))))⟩
def F409 : PF := ⟨1, [.t 2],
 sq (.reg [
 O 1 (.box (K1 4) (.t 0)),
 O 2 (.mov (.c (.b false)))] [2, 0]) (
 sq (.reg [
 O 3 (.faddr 0 (.t 1)),
 O 4 (.load K0 (.t 3)),
 O 5 (.bin .neq (.t 4) (.c (I 4))),
 O 6 (.mov (.t 5)),
 OG 7 6 false (.faddr 2 (.t 1)),
 OG 8 6 false (.load K0 (.t 7)),
 OG 9 6 false (.call 0 415 [(.t 8)]),
 O 10 (.pick (.t 6) (.c (.b true)) (.t 9)),
 O 2 (.mov (.t 10))] [10, 9, 8, 7, 6, 5, 4, 1, 3]) (
 .ret))⟩
def F412 : PF := ⟨2, [.t 4],
 sq (.reg [
 O 4 (.mov (.c (.b false)))] [4]) (
 sq (.reg [
 O 5 (.mov (.t 0)),
 O 6 (.mov (.t 1)),
 O 7 (.call 2 419 [(.t 5), (.t 6)]),
 O 8 (.bin .geq (.t 7) (.c (I 0))),
 O 4 (.mov (.t 8))] [8, 7, 1, 6, 0, 5]) (
 .ret))⟩
def F414 : PF := ⟨1, [.t 2],
 sq (.reg [
 O 2 (.mov (.c (I 0)))] [2]) (
 sq (sq (.reg [
 O 3 (.mov (.t 0))] []) (
 .block 0 (
 sq (sq (.reg [
 O 5 (.bin .eql (.t 3) (.c (I 1))),
 O 4 (.mov (.t 5))] [5]) (
 .cond (.t 4) (.skip)
 (sq (.reg [
 O 6 (.bin .eql (.t 3) (.c (I 2))),
 O 4 (.mov (.t 6))] [6]) (
 .cond (.t 4) (.skip)
 (sq (.reg [
 O 7 (.bin .eql (.t 3) (.c (I 3))),
 O 4 (.mov (.t 7))] [7]) (
 .cond (.t 4) (.skip)
 (.reg [
 O 8 (.bin .eql (.t 3) (.c (I 4))),
 O 4 (.mov (.t 8))] [8]))))))) (
 .cond (.t 4) (sq (.reg [
 O 2 (.mov (.c (I 0)))] []) (
 .ret))
 (sq (sq (.reg [
 O 10 (.bin .eql (.t 3) (.c (I 9))),
 O 9 (.mov (.t 10))] [10]) (
 .cond (.t 9) (.skip)
 (.reg [
 O 11 (.bin .eql (.t 3) (.c (I 16))),
 O 9 (.mov (.t 11))] [11]))) (
 .cond (.t 9) (sq (.reg [
 O 2 (.mov (.c (I 1)))] []) (
 .ret))
 (sq (.reg [
 O 13 (.bin .eql (.t 3) (.c (I 19))),
 O 12 (.mov (.t 13))] [3, 13]) (
 .cond (.t 12) (sq (.reg [
 O 2 (.mov (.c (I 3)))] []) (
 .ret))
 (.skip))))))))) (
 sq (sq (.reg [
 O 14 (.mov (.t 0)),
 O 15 (.bin .geq (.t 14) (.c (I 5))),
 O 16 (.mov (.t 15)),
 OG 17 16 true (.mov (.t 0)),
 OG 18 16 true (.bin .leq (.t 17) (.c (I 18))),
 O 19 (.pick (.t 16) (.t 18) (.c (.b false)))] [18, 17, 16, 15, 0, 14]) (
 .cond (.t 19) (sq (.reg [
 O 2 (.mov (.c (I 2)))] []) (
 .ret))
 (.skip))) (
 sq (.reg [
 O 2 (.mov (.c (I (-1))))] []) (
 .ret))))⟩
def F415 : PF := ⟨1, [.t 2],
 sq (.reg [
 O 2 (.mov (.c (.b false)))] [2]) (
 sq (.reg [
 O 7 (.mov (.t 0)),
 O 8 (.call 0 420 [(.t 7)]),
 O 6 (.mov (.t 8)),
 O 9 (.ext (.t 6) 0),
 O 10 (.ext (.t 6) 1),
 O 11 (.ext (.t 6) 2),
 O 3 (.mov (.t 9)),
 O 4 (.mov (.t 10)),
 O 5 (.mov (.t 11))] [4, 11, 10, 9, 6, 8, 7]) (
 sq (.reg [
 O 12 (.mov (.t 5)),
 O 13 (.bin .eql (.t 12) (.c (I 0))),
 O 14 (.mov (.t 13)),
 OG 15 14 true (.mov (.t 3)),
 OG 16 14 true (.len false (.t 15)),
 OG 17 14 true (.bin .eql (.t 16) (.c (I 1))),
 O 18 (.pick (.t 14) (.t 17) (.c (.b false))),
 O 19 (.mov (.t 18)),
 OG 20 19 true (.mov (.t 3)),
 OG 21 19 true (.iaddr (K1 3) (.t 20) (.c (I 0))),
 OG 22 19 true (.faddr 0 (.t 21)),
 OG 23 19 true (.load K0 (.t 22)),
 OG 24 19 true (.bin .eql (.t 23) (.c (I 1))),
 O 25 (.pick (.t 19) (.t 24) (.c (.b false))),
 O 26 (.mov (.t 25)),
 OG 27 26 true (.mov (.t 3)),
 OG 28 26 true (.iaddr (K1 3) (.t 27) (.c (I 0))),
 OG 29 26 true (.faddr 2 (.t 28)),
 OG 30 26 true (.load K0 (.t 29)),
 OG 31 26 true (.mov (.t 0)),
 OG 32 26 true (.bin .eql (.t 30) (.t 31)),
 O 33 (.pick (.t 26) (.t 32) (.c (.b false))),
 O 2 (.mov (.t 33))] [33, 32, 0, 31, 30, 29, 28, 27, 26, 25, 24, 23, 22, 21, 20, 19, 18, 17, 16, 3, 15, 14, 13, 5, 12]) (
 .ret)))⟩
def F416 : PF := ⟨1, [.t 2],
 sq (.reg [
 O 2 (.mov (.c (.b false)))] [2]) (
 sq (.reg [
 O 3 (.mov (.t 0)),
 O 4 (.bin .geq (.t 3) (.c (I 1))),
 O 5 (.mov (.t 4)),
 OG 6 5 true (.mov (.t 0)),
 OG 7 5 true (.bin .leq (.t 6) (.c (I 5))),
 O 8 (.pick (.t 5) (.t 7) (.c (.b false))),
 O 2 (.mov (.t 8))] [8, 7, 6, 5, 4, 0, 3]) (
 .ret))⟩
def F419 : PF := FidxG (K1 4)
def L420_0 : PC :=
 .block 1 (
 sq (.reg [
 O 13 (.mov (.t 0)),
 O 14 (.call 0 422 [(.t 13)]),
 O 7 (.mov (.t 14))] [14, 13]) (
 sq (.reg [
 O 15 (.mov (.t 6)),
 O 16 (.mov (.t 0)),
 O 17 (.mov (.t 7)),
 O 18 (.slS (.t 16) none (some (.t 17))),
 O 19 (.call 0 423 [(.t 18), (.c (.s [10]))]),
 O 20 (.bin .add (.t 15) (.t 19)),
 O 6 (.mov (.t 20))] [20, 19, 18, 17, 16, 15]) (
 sq (.reg [
 O 21 (.mov (.t 0)),
 O 22 (.mov (.t 7)),
 O 23 (.slS (.t 21) (some (.t 22)) none),
 O 0 (.mov (.t 23))] [23, 7, 22, 21]) (
 sq (sq (.reg [
 O 24 (.mov (.t 0)),
 O 25 (.bin .eql (.t 24) (.c (.s [])))] [24]) (
 .cond (.t 25) (sq (.reg [
 O 26 (.mov (.t 5)),
 O 2 (.mov (.t 26)),
 O 3 (.mov (.c (I 0))),
 O 4 (.mov (.c (I 0)))] [5, 26]) (
 .ret))
 (.skip))) (
 sq (.reg [
 O 28 (.mov (.t 0)),
 O 29 (.call 0 424 [(.t 28)]),
 O 27 (.mov (.t 29)),
 O 30 (.ext (.t 27) 0),
 O 31 (.ext (.t 27) 1),
 O 8 (.alloc (K1 3) (.a [(I 0), (I 0), (.s [])])),
 E (.store (K1 3) (.t 8) (.t 30)),
 O 9 (.mov (.t 31))] [31, 30, 27, 29, 28]) (
 sq (sq (.reg [
 O 32 (.mov (.t 9)),
 O 33 (.bin .neq (.t 32) (.c (I 0)))] [32]) (
 .cond (.t 33) (sq (.reg [
 O 34 (.mov (.t 6)),
 O 35 (.mov (.t 9)),
 O 2 (.mov (.c (.l (K1 3) [] true))),
 O 3 (.mov (.t 34)),
 O 4 (.mov (.t 35))] [9, 35, 6, 34]) (
 .ret))
 (.skip))) (
 sq (.reg [
 O 36 (.mov (.t 6)),
 O 37 (.faddr 1 (.t 8)),
 E (.store K0 (.t 37) (.t 36))] [37, 36]) (
 sq (.reg [
 O 38 (.mov (.t 5)),
 O 39 (.load (K1 3) (.t 8)),
 O 40 (.bsl (K1 3) (.a [(I 0), (I 0), (.s [])]) 1 [(0, (.t 39))]),
 O 41 (.app (K1 3) 32 (.t 38) (.t 40)),
 O 5 (.mov (.t 41))] [41, 40, 39, 38]) (
 .reg [
 O 42 (.mov (.t 0)),
 O 43 (.faddr 2 (.t 8)),
 O 44 (.load K0 (.t 43)),
 O 45 (.len true (.t 44)),
 O 46 (.slS (.t 42) (some (.t 45)) none),
 O 0 (.mov (.t 46))] [46, 45, 44, 8, 43, 42])))))))))
def F420 : PF := ⟨1, [.t 2, .t 3, .t 4],
 sq (.reg [
 O 2 (.mov (.c (.l (K1 3) [] true))),
 O 3 (.mov (.c (I 0))),
 O 4 (.mov (.c (I 0)))] [4, 3, 2]) (
 sq (sq (.reg [
 O 10 (.mov (.t 0)),
 O 11 (.len true (.t 10)),
 O 12 (.bin .gtr (.t 11) (.c (I 2048)))] [11, 10]) (
 .cond (.t 12) (sq (.reg [
 O 2 (.mov (.c (.l (K1 3) [] true))),
 O 3 (.mov (.c (I 0))),
 O 4 (.mov (.c (I 5)))] []) (
 .ret))
 (.skip))) (
 sq (.reg [
 O 5 (.mov (.c (.l (K1 3) [] true)))] []) (
 sq (.reg [
 O 6 (.mov (.c (I 1)))] []) (
 .block 0 (
 .loop [0, 5, 6] L420_0)))))⟩
def L422_0 : PC :=
 sq (sq (.reg [
 O 4 (.mov (.t 3)),
 O 5 (.mov (.t 0)),
 O 6 (.len true (.t 5)),
 O 7 (.bin .lss (.t 4) (.t 6))] [6, 5, 4]) (
 .cond (.t 7) (.skip)
 (.exit 0))) (
 .block 1 (
 sq (.reg [
 O 8 (.mov (.t 0)),
 O 9 (.mov (.t 3)),
 O 10 (.idxS (.t 8) (.t 9))] [9, 8]) (
 .block 2 (
 sq (sq (.reg [
 O 13 (.bin .eql (.t 10) (.c (.i .u8 32))),
 O 12 (.mov (.t 13))] [13]) (
 .cond (.t 12) (.skip)
 (sq (.reg [
 O 14 (.bin .eql (.t 10) (.c (.i .u8 9))),
 O 12 (.mov (.t 14))] [14]) (
 .cond (.t 12) (.skip)
 (.reg [
 O 15 (.bin .eql (.t 10) (.c (.i .u8 10))),
 O 12 (.mov (.t 15))] [15]))))) (
 .cond (.t 12) (.reg [
 O 16 (.mov (.t 3)),
 O 17 (.bin .add (.t 16) (.c (I 1))),
 O 3 (.mov (.t 17))] [17, 16])
 (sq (.reg [
 O 19 (.bin .eql (.t 10) (.c (.i .u8 35))),
 O 18 (.mov (.t 19))] [10, 19]) (
 .cond (.t 18) (.reg [
 O 20 (.mov (.t 3)),
 O 21 (.mov (.t 0)),
 O 22 (.mov (.t 3)),
 O 23 (.slS (.t 21) (some (.t 22)) none),
 O 24 (.call 2 425 [(.t 23), (.f 426)]),
 O 25 (.len true (.t 24)),
 O 26 (.bin .add (.t 20) (.t 25)),
 O 3 (.mov (.t 26))] [26, 25, 24, 23, 22, 21, 20])
 (sq (.reg [
 O 11 (.mov (.t 3)),
 O 2 (.mov (.t 11))] [3, 11]) (
 .ret)))))))))
def F422 : PF := ⟨1, [.t 2],
 sq (.reg [
 O 2 (.mov (.c (I 0)))] [2]) (
 sq (.reg [
 O 3 (.mov (.c (I 0)))] []) (
 sq (.block 0 (
 .loop [0, 3] L422_0)) (
 sq (.reg [
 O 27 (.mov (.t 3)),
 O 2 (.mov (.t 27))] [3, 27]) (
 .ret))))⟩
def L424_0 : PC :=
 sq (.reg [
 O 37 (.bin .lss (.t 36) (.t 35))] []) (
 sq (.cond (.t 37) (.skip)
 (.exit 1)) (
 sq (.block 2 (
 sq (.reg [
 O 38 (.iaddr K0 (.t 34) (.t 36)),
 O 39 (.load K0 (.t 38)),
 O 7 (.mov (.t 39))] [39, 38]) (
 sq (.reg [
 O 40 (.mov (.t 0)),
 O 41 (.mov (.t 7)),
 O 42 (.call 0 207 [(.t 40), (.t 41)])] [41, 40]) (
 .cond (.t 42) (sq (.reg [
 O 43 (.mov (.t 7)),
 O 44 (.agg [(I 0), (I 0), (.s [])] [(0, K0, (.c (I 4))), (2, K0, (.t 43))]),
 E (.store (K1 3) (.t 2) (.t 44)),
 O 3 (.mov (.c (I 0)))] [44, 7, 43]) (
 .ret))
 (.skip))))) (
 .reg [
 O 45 (.bin .add (.t 36) (.c (I 1))),
 O 36 (.mov (.t 45))] [45])))
def F424 : PF := ⟨1, [.c 2 (K1 3), .t 3],
 sq (.reg [
 O 2 (.alloc (K1 3) (.a [(I 0), (I 0), (.s [])])),
 O 3 (.mov (.c (I 0)))] [3]) (
 sq (sq (.reg [
 O 8 (.mov (.t 0)),
 O 9 (.idxS (.t 8) (.c (I 0))),
 O 10 (.conv .i32 (.t 9)),
 O 4 (.mov (.t 10))] [10, 9, 8]) (
 .block 0 (
 sq (.reg [
 O 12 (.mov (.t 4)),
 O 13 (.call 0 429 [(.t 12)]),
 O 11 (.mov (.t 13))] [13, 12]) (
 .cond (.t 11) (sq (.reg [
 O 14 (.mov (.t 0)),
 O 15 (.call 2 425 [(.t 14), (.f 430)]),
 O 5 (.mov (.t 15))] [15, 0, 14]) (
 sq (sq (.reg [
 O 16 (.mov (.t 5)),
 O 17 (.call 0 431 [(.t 16)])] [16]) (
 .cond (.t 17) (sq (.reg [
 O 18 (.mov (.t 5)),
 O 19 (.agg [(I 0), (I 0), (.s [])] [(0, K0, (.c (I 5))), (2, K0, (.t 18))]),
 E (.store (K1 3) (.t 2) (.t 19)),
 O 3 (.mov (.c (I 0)))] [19, 5, 18]) (
 .ret))
 (.skip))) (
 sq (sq (.reg [
 O 20 (.mov (.t 5)),
 O 21 (.len true (.t 20)),
 O 22 (.bin .gtr (.t 21) (.c (I 16)))] [21, 20]) (
 .cond (.t 22) (sq (.reg [
 O 23 (.agg [(I 0), (I 0), (.s [])] []),
 E (.store (K1 3) (.t 2) (.t 23)),
 O 3 (.mov (.c (I 4)))] [23]) (
 .ret))
 (.skip))) (
 sq (.reg [
 O 24 (.mov (.t 5)),
 O 25 (.agg [(I 0), (I 0), (.s [])] [(0, K0, (.c (I 1))), (2, K0, (.t 24))]),
 E (.store (K1 3) (.t 2) (.t 25)),
 O 3 (.mov (.c (I 0)))] [25, 5, 24]) (
 .ret)))))
 (sq (.reg [
 O 27 (.mov (.t 4)),
 O 28 (.call 0 432 [(.t 27)]),
 O 26 (.mov (.t 28))] [28, 4, 27]) (
 .cond (.t 26) (sq (.reg [
 O 29 (.mov (.t 0)),
 O 30 (.call 2 425 [(.t 29), (.f 434)]),
 O 31 (.call 0 433 [(.t 30)]),
 O 32 (.ext (.t 31) 0),
 O 33 (.ext (.t 31) 1),
 E (.store (K1 3) (.t 2) (.t 32)),
 O 3 (.mov (.t 33))] [33, 32, 31, 30, 0, 29]) (
 .ret))
 (.skip))))))) (
 sq (sq (.reg [
 O 34 (.call 0 435 []),
 O 35 (.len false (.t 34)),
 O 36 (.mov (.c (I 0)))] []) (
 .block 1 (
 .loop [0, 2, 34, 35, 36] L424_0))) (
 sq (.reg [
 O 46 (.agg [(I 0), (I 0), (.s [])] []),
 E (.store (K1 3) (.t 2) (.t 46)),
 O 3 (.mov (.c (I 2)))] [46]) (
 .ret))))⟩
def L425_0 : PC :=
 sq (sq (.reg [
 O 6 (.mov (.t 5)),
 O 7 (.mov (.t 0)),
 O 8 (.len true (.t 7)),
 O 9 (.bin .lss (.t 6) (.t 8)),
 O 10 (.mov (.t 9)),
 OG 11 10 true (.mov (.t 1)),
 OG 12 10 true (.mov (.t 0)),
 OG 13 10 true (.mov (.t 5)),
 OG 14 10 true (.idxS (.t 12) (.t 13)),
 OG 15 10 true (.conv .i32 (.t 14)),
 OG 16 10 true (.callv (.t 11) [(.t 15)]),
 O 17 (.pick (.t 10) (.t 16) (.c (.b false)))] [16, 15, 14, 13, 12, 11, 10, 9, 8, 7, 6]) (
 .cond (.t 17) (.skip)
 (.exit 0))) (
 .block 1 (
 .reg [
 O 18 (.mov (.t 5)),
 O 19 (.bin .add (.t 18) (.c (I 1))),
 O 5 (.mov (.t 19))] [19, 18]))
def F425 : PF := ⟨2, [.t 4],
 sq (.reg [
 O 4 (.mov (.c (.s [])))] [4]) (
 sq (.reg [
 O 5 (.mov (.c (I 0)))] []) (
 sq (.block 0 (
 .loop [0, 1, 5] L425_0)) (
 sq (.reg [
 O 20 (.mov (.t 0)),
 O 21 (.mov (.t 5)),
 O 22 (.slS (.t 20) none (some (.t 21))),
 O 4 (.mov (.t 22))] [22, 5, 21, 0, 20]) (
 .ret))))⟩
def F429 : PF := ⟨1, [.t 2],
 sq (.reg [
 O 2 (.mov (.c (.b false)))] [2]) (
 sq (.reg [
 O 3 (.mov (.t 0)),
 O 4 (.bin .geq (.t 3) (.c (.i .i32 97))),
 O 5 (.mov (.t 4)),
 OG 6 5 true (.mov (.t 0)),
 OG 7 5 true (.bin .leq (.t 6) (.c (.i .i32 122))),
 O 8 (.pick (.t 5) (.t 7) (.c (.b false))),
 O 2 (.mov (.t 8))] [8, 7, 6, 5, 4, 0, 3]) (
 .ret))⟩
def F430 : PF := ⟨1, [.t 2],
 sq (.reg [
 O 2 (.mov (.c (.b false)))] [2]) (
 sq (.reg [
 O 3 (.mov (.t 0)),
 O 4 (.call 0 429 [(.t 3)]),
 O 5 (.mov (.t 4)),
 OG 6 5 false (.mov (.t 0)),
 OG 7 5 false (.call 0 432 [(.t 6)]),
 O 8 (.pick (.t 5) (.c (.b true)) (.t 7)),
 O 9 (.mov (.t 8)),
 OG 10 9 false (.mov (.t 0)),
 OG 11 9 false (.bin .eql (.t 10) (.c (.i .i32 95))),
 O 12 (.pick (.t 9) (.c (.b true)) (.t 11)),
 O 2 (.mov (.t 12))] [12, 11, 10, 9, 8, 7, 6, 5, 4, 0, 3]) (
 .ret))⟩
def F431 : PF := ⟨1, [.t 2],
 sq (.reg [
 O 2 (.mov (.c (.b false)))] [2]) (
 sq (.reg [
 O 3 (.call 0 438 []),
 O 4 (.mov (.t 0)),
 O 5 (.call 0 437 [(.t 3), (.t 4)]),
 O 2 (.mov (.t 5))] [5, 0, 4, 3]) (
 .ret))⟩
def F437 : PF := ⟨2, [.t 4],
 sq (.reg [
 O 4 (.mov (.c (.b false)))] [4]) (
 sq (.reg [
 O 5 (.mov (.t 0)),
 O 6 (.mov (.t 1)),
 O 7 (.call 0 446 [(.t 5), (.t 6)]),
 O 8 (.bin .geq (.t 7) (.c (I 0))),
 O 4 (.mov (.t 8))] [8, 7, 1, 6, 0, 5]) (
 .ret))⟩
def F438 : PF := ⟨0, [.t 0],
 sq (.reg [
 O 0 (.mov (.c (.l K0 [] true)))] [0]) (
 sq (.reg [
 O 1 (.call 0 442 [(.c (.s [112, 114, 111, 100, 117, 99, 116, 32, 99, 117, 114, 114, 101, 110, 99, 121, 32, 99, 97, 108, 101, 110, 100, 97, 114, 32, 102, 114, 111, 109, 32, 101, 118, 101, 114, 121, 32, 111, 118, 101, 114, 100, 114, 97, 102, 116, 32, 116, 97, 120, 32, 99, 114, 101, 100, 105, 116, 32, 100, 101, 98, 105, 116, 32, 109, 97, 114, 103, 105, 110, 97, 108, 32, 119, 104, 111, 108, 101, 32, 97, 99, 116, 51, 54, 48, 32, 97, 99, 116, 51, 54, 53, 32, 97, 99, 116, 117, 97, 108, 32, 116, 104, 105, 114, 116, 121, 32, 100, 111, 119, 110, 32, 117, 112, 32, 102, 108, 111, 111, 114, 32, 99, 101, 105, 108, 32, 104, 97, 108, 102, 95, 117, 112, 32, 104, 97, 108, 102, 95, 101, 118, 101, 110, 32, 107, 101, 101, 112, 32, 100, 114, 111, 112, 32, 102, 101, 101, 32, 108, 105, 109, 105, 116, 32, 119, 104, 101, 110, 32, 97, 109, 111, 117, 110, 116, 95, 111, 102, 32, 115, 105, 110, 103, 108, 101, 32, 100, 97, 105, 108, 121, 32, 109, 111, 110, 116, 104, 108, 121, 32, 109, 111, 110, 116, 104, 32, 114, 101, 116, 117, 114, 110, 32, 99, 108, 111, 115, 101, 32, 101, 118, 101, 110, 116, 32, 105, 102, 32, 116, 104, 101, 110, 32, 101, 108, 115, 101, 32, 97, 110, 100, 32, 111, 114, 32, 110, 111, 116, 32, 109, 105, 110, 32, 109, 97, 120]))]),
 O 0 (.mov (.t 1))] [1]) (
 .ret))⟩
def L442_0 : PC :=
 sq (sq (.reg [
 O 13 (.mov (.t 6)),
 O 14 (.mov (.t 0)),
 O 15 (.len true (.t 14)),
 O 16 (.bin .lss (.t 13) (.t 15))] [15, 14, 13]) (
 .cond (.t 16) (.skip)
 (.exit 0))) (
 sq (.block 1 (
 sq (.reg [
 O 19 (.mov (.t 0)),
 O 20 (.mov (.t 6)),
 O 21 (.idxS (.t 19) (.t 20)),
 O 7 (.mov (.t 21))] [21, 20, 19]) (
 sq (.reg [
 O 22 (.mov (.t 5)),
 O 23 (.mov (.t 7)),
 O 24 (.bin .or (.t 22) (.t 23)),
 O 5 (.mov (.t 24))] [24, 23, 22]) (
 sq (.reg [
 O 25 (.mov (.t 7)),
 O 26 (.iaddrA 256 K0 (.g 4) (.t 25)),
 O 27 (.load K0 (.t 26)),
 O 28 (.conv .i64 (.t 27)),
 O 8 (.mov (.t 28))] [28, 27, 26, 7, 25]) (
 sq (.reg [
 O 29 (.mov (.t 3)),
 O 30 (.mov (.t 4)),
 O 31 (.mov (.t 8)),
 O 32 (.un .xor (.t 31)),
 O 33 (.bin .and (.t 30) (.t 32)),
 O 34 (.bin .add (.t 29) (.t 33)),
 O 3 (.mov (.t 34))] [34, 33, 32, 31, 4, 30, 29]) (
 .reg [
 O 35 (.mov (.t 8)),
 O 4 (.mov (.t 35))] [8, 35])))))) (
 .reg [
 O 17 (.mov (.t 6)),
 O 18 (.bin .add (.t 17) (.c (I 1))),
 O 6 (.mov (.t 18))] [18, 17]))
def L442_1 : PC :=
 sq (sq (.reg [
 O 42 (.mov (.t 12)),
 O 43 (.mov (.t 0)),
 O 44 (.len true (.t 43)),
 O 45 (.bin .lss (.t 42) (.t 44)),
 O 46 (.mov (.t 45)),
 OG 47 46 true (.mov (.t 0)),
 OG 48 46 true (.mov (.t 12)),
 OG 49 46 true (.idxS (.t 47) (.t 48)),
 OG 50 46 true (.iaddrA 256 K0 (.g 4) (.t 49)),
 OG 51 46 true (.load K0 (.t 50)),
 OG 52 46 true (.bin .neq (.t 51) (.c (.i .u8 0))),
 O 53 (.pick (.t 46) (.t 52) (.c (.b false)))] [52, 51, 50, 49, 48, 47, 46, 45, 44, 43, 42]) (
 .cond (.t 53) (.skip)
 (.exit 2))) (
 .block 3 (
 .reg [
 O 54 (.mov (.t 12)),
 O 55 (.bin .add (.t 54) (.c (I 1))),
 O 12 (.mov (.t 55))] [55, 54]))
def L442_2 : PC :=
 sq (sq (.reg [
 O 80 (.mov (.t 12)),
 O 81 (.mov (.t 0)),
 O 82 (.len true (.t 81)),
 O 83 (.bin .lss (.t 80) (.t 82)),
 O 84 (.mov (.t 83)),
 OG 85 84 true (.mov (.t 0)),
 OG 86 84 true (.mov (.t 12)),
 OG 87 84 true (.idxS (.t 85) (.t 86)),
 OG 88 84 true (.iaddrA 256 K0 (.g 4) (.t 87)),
 OG 89 84 true (.load K0 (.t 88)),
 OG 90 84 true (.bin .neq (.t 89) (.c (.i .u8 0))),
 O 91 (.pick (.t 84) (.t 90) (.c (.b false)))] [90, 89, 88, 87, 86, 85, 84, 83, 82, 81, 80]) (
 .cond (.t 91) (.skip)
 (.exit 6))) (
 .block 7 (
 .reg [
 O 92 (.mov (.t 12)),
 O 93 (.bin .add (.t 92) (.c (I 1))),
 O 12 (.mov (.t 93))] [93, 92]))
def L442_3 : PC :=
 sq (sq (.reg [
 O 57 (.mov (.t 12)),
 O 58 (.mov (.t 0)),
 O 59 (.len true (.t 58)),
 O 60 (.bin .lss (.t 57) (.t 59))] [59, 58, 57]) (
 .cond (.t 60) (.skip)
 (.exit 4))) (
 .block 5 (
 sq (sq (.reg [
 O 61 (.mov (.t 0)),
 O 62 (.mov (.t 12)),
 O 63 (.idxS (.t 61) (.t 62)),
 O 64 (.iaddrA 256 K0 (.g 4) (.t 63)),
 O 65 (.load K0 (.t 64)),
 O 66 (.bin .eql (.t 65) (.c (.i .u8 0)))] [65, 64, 63, 62, 61]) (
 .cond (.t 66) (sq (.reg [
 O 67 (.mov (.t 12)),
 O 68 (.bin .add (.t 67) (.c (I 1))),
 O 12 (.mov (.t 68))] [68, 67]) (
 .exit 5))
 (.skip))) (
 sq (.reg [
 O 69 (.mov (.t 9)),
 O 70 (.mov (.t 10)),
 O 71 (.mov (.t 0)),
 O 72 (.mov (.t 11)),
 O 73 (.mov (.t 12)),
 O 74 (.slS (.t 71) (some (.t 72)) (some (.t 73))),
 O 75 (.iaddr K0 (.t 69) (.t 70)),
 E (.store K0 (.t 75) (.t 74))] [75, 74, 73, 11, 72, 71, 70, 69]) (
 sq (.reg [
 O 76 (.mov (.t 10)),
 O 77 (.bin .add (.t 76) (.c (I 1))),
 O 10 (.mov (.t 77))] [77, 76]) (
 sq (.reg [
 O 78 (.mov (.t 12)),
 O 79 (.bin .add (.t 78) (.c (I 1))),
 O 12 (.mov (.t 79))] [79, 78]) (
 sq (.block 6 (
 .loop [0, 9, 10, 12] L442_2)) (
 .reg [
 O 94 (.mov (.t 12)),
 O 11 (.mov (.t 94))] [94])))))))
def F442 : PF := ⟨1, [.t 2],
 sq (.reg [
 O 2 (.mov (.c (.l K0 [] true)))] [2]) (
 sq (.reg [
 O 3 (.mov (.c (I 0)))] []) (
 sq (.reg [
 O 4 (.mov (.c (I 1)))] []) (
 sq (.reg [
 O 5 (.mov (.c (.i .u8 0)))] []) (
 sq (sq (.reg [
 O 6 (.mov (.c (I 0)))] []) (
 .block 0 (
 .loop [0, 3, 4, 5, 6] L442_0))) (
 sq (sq (.reg [
 O 36 (.mov (.t 5)),
 O 37 (.bin .geq (.t 36) (.c (.i .u8 128)))] [5, 36]) (
 .cond (.t 37) (sq (.reg [
 O 38 (.mov (.t 0)),
 O 39 (.call 2 452 [(.t 38), (.f 453)]),
 O 2 (.mov (.t 39))] [39, 0, 38]) (
 .ret))
 (.skip))) (
 sq (.reg [
 O 40 (.mov (.t 3)),
 O 41 (.mksl K0 16 (.s []) (.t 40) (.t 40)),
 O 9 (.mov (.t 41))] [41, 3, 40]) (
 sq (.reg [
 O 10 (.mov (.c (I 0)))] []) (
 sq (.reg [
 O 11 (.mov (.c (I 0)))] [11]) (
 sq (.reg [
 O 12 (.mov (.c (I 0)))] []) (
 sq (.block 2 (
 .loop [0, 9, 10, 12] L442_1)) (
 sq (.reg [
 O 56 (.mov (.t 12)),
 O 11 (.mov (.t 56))] [56]) (
 sq (.block 4 (
 .loop [0, 9, 10, 11, 12] L442_3)) (
 sq (sq (.reg [
 O 95 (.mov (.t 11)),
 O 96 (.mov (.t 0)),
 O 97 (.len true (.t 96)),
 O 98 (.bin .lss (.t 95) (.t 97))] [97, 96, 95]) (
 .cond (.t 98) (.reg [
 O 99 (.mov (.t 9)),
 O 100 (.mov (.t 10)),
 O 101 (.mov (.t 0)),
 O 102 (.mov (.t 11)),
 O 103 (.slS (.t 101) (some (.t 102)) none),
 O 104 (.iaddr K0 (.t 99) (.t 100)),
 E (.store K0 (.t 104) (.t 103))] [104, 103, 11, 102, 0, 101, 10, 100, 99])
 (.skip))) (
 sq (.reg [
 O 105 (.mov (.t 9)),
 O 2 (.mov (.t 105))] [9, 105]) (
 .ret)))))))))))))))⟩
def L446_0 : PC :=
 sq (.reg [
 O 9 (.bin .lss (.t 8) (.t 7))] []) (
 sq (.cond (.t 9) (.skip)
 (.exit 0)) (
 sq (.block 1 (
 sq (.reg [
 O 10 (.mov (.t 8)),
 O 5 (.mov (.t 10))] [10]) (
 sq (.reg [
 O 11 (.mov (.t 1)),
 O 12 (.mov (.t 0)),
 O 13 (.mov (.t 5)),
 O 14 (.iaddr K0 (.t 12) (.t 13)),
 O 15 (.load K0 (.t 14)),
 O 16 (.bin .eql (.t 11) (.t 15))] [15, 14, 13, 12, 11]) (
 .cond (.t 16) (sq (.reg [
 O 17 (.mov (.t 5)),
 O 4 (.mov (.t 17))] [5, 17]) (
 .ret))
 (.skip))))) (
 .reg [
 O 18 (.bin .add (.t 8) (.c (I 1))),
 O 8 (.mov (.t 18))] [18])))
def F446 : PF := ⟨2, [.t 4],
 sq (.reg [
 O 4 (.mov (.c (I 0)))] [4]) (
 sq (sq (.reg [
 O 6 (.mov (.t 0)),
 O 7 (.len false (.t 6)),
 O 8 (.mov (.c (I 0)))] [6]) (
 .block 0 (
 .loop [0, 1, 7, 8] L446_0))) (
 sq (.reg [
 O 4 (.mov (.c (I (-1))))] []) (
 .ret)))⟩
def F634 : PF := ⟨3, [.t 6, .t 7],
 sq (.reg [
 O 3 (.box (K1 22) (.t 0)),
 O 6 (.mov (.c (I 0))),
 O 7 (.mov (.c (I 0)))] [7, 6, 0]) (
 sq (.reg [
 O 11 (.load (K1 22) (.t 3)),
 O 12 (.mov (.t 1)),
 O 13 (.mov (.t 2)),
 O 14 (.call 0 719 [(.t 11), (.t 12), (.t 13)]),
 O 10 (.mov (.t 14)),
 O 15 (.ext (.t 10) 0),
 O 16 (.ext (.t 10) 1),
 O 8 (.mov (.t 15)),
 O 9 (.mov (.t 16))] [16, 15, 10, 14, 13, 12, 11]) (
 sq (sq (.reg [
 O 17 (.mov (.t 9)),
 O 18 (.bin .neq (.t 17) (.c (I 0)))] [17]) (
 .cond (.t 18) (sq (.reg [
 O 19 (.mov (.t 9)),
 O 6 (.mov (.c (I 0))),
 O 7 (.mov (.t 19))] [9, 19]) (
 .ret))
 (.skip))) (
 sq (.regD [
 O 20 (.faddr 19 (.t 3)),
 O 21 (.load K0 (.t 20)),
 O 22 (.mov (.t 1)),
 O 23 (.call 0 715 [(.t 21), (.t 22)]),
 O 24 (.mov (.t 8)),
 O 25 (.bin .sub (.t 23) (.t 24)),
 O 26 (.faddr 20 (.t 3)),
 O 27 (.load K0 (.t 26)),
 O 28 (.mov (.t 1)),
 O 29 (.mov (.t 2)),
 O 30 (.call 0 716 [(.t 27), (.t 28), (.t 29)]),
 O 31 (.bin .sub (.t 25) (.t 30)),
 O 32 (.faddr 21 (.t 3)),
 O 33 (.load K0 (.t 32)),
 O 34 (.mov (.t 1)),
 O 35 (.mov (.t 2)),
 O 36 (.call 0 720 [(.t 33), (.t 34), (.t 35)]),
 O 37 (.bin .sub (.t 31) (.t 36)),
 O 6 (.mov (.t 37)),
 O 7 (.mov (.c (I 0)))] [0, 1, 0, 7, 0, 31, 0, 64, 0, 0, 975, 2047, 0, 4096, 0, 0, 63439, 131071, 262143, 524287] [37, 36, 35, 34, 33, 32, 31, 30, 2, 29, 28, 27, 26, 25, 8, 24, 23, 1, 22, 21, 3, 20]) (
 .ret))))⟩
def L674_0 : PC :=
 sq (.reg [
 O 18 (.bin .lss (.t 17) (.t 16))] []) (
 sq (.cond (.t 18) (.skip)
 (.exit 0)) (
 sq (.block 1 (
 sq (.reg [
 O 19 (.iaddr (K1 3) (.t 15) (.t 17)),
 O 20 (.load (K1 3) (.t 19)),
 O 6 (.alloc (K1 3) (.a [(I 0), (I 0), (.s [])])),
 E (.store (K1 3) (.t 6) (.t 20))] [20, 19]) (
 sq (sq (.reg [
 O 21 (.faddr 0 (.t 6)),
 O 22 (.load K0 (.t 21)),
 O 23 (.bin .lss (.t 22) (.c (I 1000)))] [22, 21]) (
 .cond (.t 23) (.exit 1)
 (.skip))) (
 sq (.reg [
 O 25 (.load (K1 22) (.t 2)),
 O 26 (.faddr 0 (.t 6)),
 O 27 (.load K0 (.t 26)),
 O 28 (.call 0 12 [(.t 25), (.t 27)]),
 O 24 (.mov (.t 28)),
 O 29 (.ext (.t 24) 0),
 O 30 (.ext (.t 24) 1),
 O 7 (.alloc (K1 7) (.a [(I 0), (I 0), (I 0), (I 0), (.s []), (.s []), (.s [])])),
 E (.store (K1 7) (.t 7) (.t 29)),
 O 8 (.mov (.t 30))] [7, 30, 29, 24, 28, 27, 26, 25]) (
 .block 2 (
 sq (.reg [
 O 32 (.mov (.t 8)),
 O 33 (.un .not (.t 32)),
 O 31 (.mov (.t 33))] [33, 8, 32]) (
 .cond (.t 31) (sq (.reg [
 O 4 (.mov (.c (I 11)))] []) (
 .ret))
 (sq (.reg [
 O 35 (.load (K1 22) (.t 2)),
 O 36 (.faddr 0 (.t 6)),
 O 37 (.load K0 (.t 36)),
 O 38 (.faddr 1 (.t 3)),
 O 39 (.load K0 (.t 38)),
 O 40 (.call 0 39 [(.t 35), (.t 37), (.t 39)]),
 O 41 (.un .not (.t 40)),
 O 34 (.mov (.t 41))] [41, 40, 39, 38, 37, 36, 35]) (
 .cond (.t 34) (sq (.reg [
 O 4 (.mov (.c (I 16)))] []) (
 .ret))
 (sq (.reg [
 O 43 (.faddr 21 (.t 2)),
 O 44 (.load K0 (.t 43)),
 O 45 (.faddr 0 (.t 6)),
 O 46 (.load K0 (.t 45)),
 O 47 (.faddr 1 (.t 3)),
 O 48 (.load K0 (.t 47)),
 O 49 (.faddr 1 (.t 6)),
 O 50 (.load K0 (.t 49)),
 O 51 (.call 0 767 [(.t 44), (.t 46), (.t 48), (.t 50)]),
 O 42 (.mov (.t 51))] [51, 50, 49, 48, 47, 46, 45, 44, 43]) (
 .cond (.t 42) (sq (.reg [
 O 4 (.mov (.c (I 19)))] []) (
 .ret))
 (sq (.reg [
 O 53 (.faddr 1 (.t 6)),
 O 54 (.load K0 (.t 53)),
 O 55 (.bin .gtr (.t 54) (.c (I 0))),
 O 52 (.mov (.t 55))] [55, 54, 53]) (
 .cond (.t 52) (sq (.reg [
 O 56 (.load (K1 22) (.t 2)),
 O 57 (.faddr 0 (.t 6)),
 O 58 (.load K0 (.t 57)),
 O 59 (.faddr 1 (.t 3)),
 O 60 (.load K0 (.t 59)),
 O 61 (.faddr 1 (.t 6)),
 O 62 (.load K0 (.t 61)),
 O 63 (.call 0 768 [(.t 56), (.t 58), (.t 60), (.t 62)]),
 O 9 (.mov (.t 63))] [63, 62, 61, 60, 59, 58, 6, 57, 56]) (
 sq (.reg [
 O 64 (.mov (.t 9)),
 O 65 (.bin .neq (.t 64) (.c (I 0)))] [64]) (
 .cond (.t 65) (sq (.reg [
 O 66 (.mov (.t 9)),
 O 4 (.mov (.t 66))] [9, 66]) (
 .ret))
 (.skip))))
 (.skip)))))))))))))) (
 .reg [
 O 67 (.bin .add (.t 17) (.c (I 1))),
 O 17 (.mov (.t 67))] [67])))
def F674 : PF := ⟨2, [.t 4],
 sq (.reg [
 O 2 (.box (K1 22) (.t 0)),
 O 3 (.box (K1 10) (.t 1)),
 O 4 (.mov (.c (I 0)))] [4, 1, 0]) (
 sq (sq (.reg [
 O 10 (.faddr 4 (.t 3)),
 O 11 (.load K0 (.t 10)),
 O 12 (.bin .neq (.t 11) (.c (I 0)))] [11, 10]) (
 .cond (.t 12) (sq (.reg [
 O 4 (.mov (.c (I 0)))] []) (
 .ret))
 (.skip))) (
 sq (sq (.reg [
 O 13 (.faddr 8 (.t 3)),
 O 14 (.load K0 (.t 13)),
 O 15 (.call 0 110 [(.t 14)]),
 O 16 (.len false (.t 15)),
 O 17 (.mov (.c (I 0)))] [14, 13]) (
 .block 0 (
 .loop [2, 3, 15, 16, 17] L674_0))) (
 sq (.reg [
 O 4 (.mov (.c (I 0)))] []) (
 .ret))))⟩
def F708 : PF := ⟨2, [.t 4],
 sq (.reg [
 O 4 (.mov (.c (.b false)))] [4]) (
 sq (.reg [
 O 5 (.mov (.t 0)),
 O 6 (.mov (.t 1)),
 O 7 (.call 2 265 [(.t 5), (.t 6)]),
 O 8 (.bin .geq (.t 7) (.c (I 0))),
 O 4 (.mov (.t 8))] [8, 7, 1, 6, 0, 5]) (
 .ret))⟩
def L715_0 : PC :=
 .reg [
 O 7 (.mov (.t 12))] [12]
def L715_1 : PC :=
 .block 1 (
 .reg [
 O 13 (.load K0 (.t 5)),
 O 14 (.mov (.t 7)),
 O 15 (.bin .sub (.t 13) (.t 14)),
 E (.store K0 (.t 5) (.t 15))] [15, 7, 14, 5, 13])
def F715 : PF := ⟨2, [.t 4],
 sq (.reg [
 O 4 (.mov (.c (I 0)))] [4]) (
 sq (.reg [
 O 5 (.alloc K0 (I 0)),
 E (.store K0 (.t 5) (.c (I 0)))] []) (
 sq (sq (.reg [
 O 8 (.mov (.t 0)),
 O 9 (.mov (.t 1)),
 O 10 (.call 2 50 [(.t 8), (.t 9)])] [1, 9, 0, 8]) (
 .block 0 (
 .rng (.t 10) 100012 [11, 12] [5] L715_0 L715_1))) (
 sq (.reg [
 O 16 (.load K0 (.t 5)),
 O 4 (.mov (.t 16))] [5, 16]) (
 .ret))))⟩
def L716_0 : PC :=
 sq (.reg [
 O 13 (.bin .lss (.t 12) (.t 11))] []) (
 sq (.cond (.t 13) (.skip)
 (.exit 0)) (
 sq (.block 1 (
 sq (.reg [
 O 14 (.iaddr (K1 6) (.t 10) (.t 12)),
 O 15 (.load (K1 6) (.t 14)),
 O 9 (.alloc (K1 6) (.a [(I 0), (I 0), (I 0), (I 0), (I 0), (.s [])])),
 E (.store (K1 6) (.t 9) (.t 15))] [15, 14]) (
 sq (.reg [
 O 16 (.faddr 1 (.t 9)),
 O 17 (.load K0 (.t 16)),
 O 18 (.mov (.t 1)),
 O 19 (.bin .eql (.t 17) (.t 18)),
 O 20 (.mov (.t 19)),
 OG 21 20 true (.faddr 3 (.t 9)),
 OG 22 20 true (.load K0 (.t 21)),
 OG 23 20 true (.mov (.t 2)),
 OG 24 20 true (.bin .leq (.t 22) (.t 23)),
 O 25 (.pick (.t 20) (.t 24) (.c (.b false))),
 O 26 (.mov (.t 25)),
 OG 27 26 true (.mov (.t 2)),
 OG 28 26 true (.faddr 4 (.t 9)),
 OG 29 26 true (.load K0 (.t 28)),
 OG 30 26 true (.bin .leq (.t 27) (.t 29)),
 O 31 (.pick (.t 26) (.t 30) (.c (.b false)))] [30, 29, 28, 27, 26, 25, 24, 23, 22, 21, 20, 19, 18, 17, 16]) (
 .cond (.t 31) (.reg [
 O 32 (.mov (.t 7)),
 O 33 (.faddr 2 (.t 9)),
 O 34 (.load K0 (.t 33)),
 O 35 (.bin .add (.t 32) (.t 34)),
 O 7 (.mov (.t 35))] [35, 34, 9, 33, 32])
 (.skip))))) (
 .reg [
 O 36 (.bin .add (.t 12) (.c (I 1))),
 O 12 (.mov (.t 36))] [36])))
def F716 : PF := ⟨3, [.t 6],
 sq (.reg [
 O 6 (.mov (.c (I 0)))] [6]) (
 sq (.reg [
 O 7 (.mov (.c (I 0)))] []) (
 sq (sq (.reg [
 O 10 (.mov (.t 0)),
 O 11 (.len false (.t 10)),
 O 12 (.mov (.c (I 0)))] [0]) (
 .block 0 (
 .loop [1, 2, 7, 10, 11, 12] L716_0))) (
 sq (.reg [
 O 37 (.mov (.t 7)),
 O 6 (.mov (.t 37))] [7, 37]) (
 .ret))))⟩
def F719 : PF := ⟨3, [.t 6, .t 7],
 sq (.reg [
 O 3 (.box (K1 22) (.t 0)),
 O 6 (.mov (.c (I 0))),
 O 7 (.mov (.c (I 0)))] [7, 6, 0]) (
 sq (.reg [
 O 13 (.load (K1 22) (.t 3)),
 O 14 (.mov (.t 1)),
 O 15 (.call 0 12 [(.t 13), (.t 14)]),
 O 12 (.mov (.t 15)),
 O 16 (.ext (.t 12) 0),
 O 17 (.ext (.t 12) 1),
 O 8 (.alloc (K1 7) (.a [(I 0), (I 0), (I 0), (I 0), (.s []), (.s []), (.s [])])),
 E (.store (K1 7) (.t 8) (.t 16)),
 O 9 (.mov (.t 17))] [17, 16, 12, 15, 14, 13]) (
 sq (.reg [
 O 19 (.load (K1 22) (.t 3)),
 O 20 (.mov (.t 1)),
 O 21 (.mov (.t 2)),
 O 22 (.call 0 24 [(.t 19), (.t 20), (.t 21)]),
 O 18 (.mov (.t 22)),
 O 23 (.ext (.t 18) 0),
 O 24 (.ext (.t 18) 1),
 O 10 (.alloc (K1 19) (.a [(.s []), (.s []), (.s []), (I 0), (I 0), (I 0), (I 0), (.l (K1 2) [] true), (.b false), (I 0), (I 0), (.b false), (.l (K1 2) [] true), (.b false), (I 0), (I 0), (.b false), (.l (K1 10) [] true), (.l (K1 6) [] true)])),
 E (.store (K1 19) (.t 10) (.t 23)),
 O 11 (.mov (.t 24))] [24, 23, 18, 22, 2, 21, 1, 20, 3, 19]) (
 sq (sq (.reg [
 O 25 (.mov (.t 9)),
 O 26 (.un .not (.t 25)),
 O 27 (.mov (.t 26)),
 OG 28 27 false (.mov (.t 11)),
 OG 29 27 false (.un .not (.t 28)),
 O 30 (.pick (.t 27) (.c (.b true)) (.t 29))] [29, 11, 28, 27, 26, 9, 25]) (
 .cond (.t 30) (sq (.reg [
 O 6 (.mov (.c (I 0))),
 O 7 (.mov (.c (I 11)))] []) (
 .ret))
 (.skip))) (
 sq (.reg [
 O 31 (.faddr 5 (.t 10)),
 O 32 (.load K0 (.t 31)),
 O 33 (.faddr 3 (.t 8)),
 O 34 (.load K0 (.t 33)),
 O 35 (.bin .add (.t 32) (.t 34)),
 O 36 (.un .neg (.t 35)),
 O 6 (.mov (.t 36)),
 O 7 (.mov (.c (I 0)))] [36, 35, 34, 8, 33, 32, 10, 31]) (
 .ret)))))⟩
def L720_0 : PC :=
 sq (.reg [
 O 18 (.bin .lss (.t 17) (.t 16))] []) (
 sq (.cond (.t 18) (.skip)
 (.exit 0)) (
 sq (.block 1 (
 sq (.reg [
 O 19 (.iaddr (K1 7) (.t 15) (.t 17)),
 O 20 (.load (K1 7) (.t 19)),
 O 9 (.alloc (K1 7) (.a [(I 0), (I 0), (I 0), (I 0), (I 0), (I 0), (.s [])])),
 E (.store (K1 7) (.t 9) (.t 20))] [20, 19]) (
 sq (.reg [
 O 22 (.load (K1 7) (.t 9)),
 O 23 (.call 0 804 [(.t 22)]),
 O 24 (.tas 128 (.a [(I 0)]) true (.t 23)),
 O 21 (.mov (.t 24)),
 O 25 (.ext (.t 21) 0),
 O 26 (.ext (.t 21) 1),
 O 10 (.alloc (K1 1) (.a [(I 0)])),
 E (.store (K1 1) (.t 10) (.t 25)),
 O 11 (.mov (.t 26))] [26, 25, 21, 24, 23, 9, 22]) (
 sq (.reg [
 O 27 (.mov (.t 11))] [11]) (
 .cond (.t 27) (.reg [
 O 28 (.mov (.t 7)),
 O 29 (.faddr 0 (.t 10)),
 O 30 (.load K0 (.t 29)),
 O 31 (.bin .add (.t 28) (.t 30)),
 O 7 (.mov (.t 31))] [31, 30, 10, 29, 28])
 (.skip)))))) (
 .reg [
 O 32 (.bin .add (.t 17) (.c (I 1))),
 O 17 (.mov (.t 32))] [32])))
def F720 : PF := ⟨3, [.t 6],
 sq (.reg [
 O 6 (.mov (.c (I 0)))] [6]) (
 sq (.reg [
 O 7 (.mov (.c (I 0)))] []) (
 sq (sq (.reg [
 O 12 (.mov (.t 0)),
 O 13 (.mov (.t 1)),
 O 14 (.mov (.t 2)),
 O 15 (.call 0 803 [(.t 12), (.t 13), (.t 14)]),
 O 16 (.len false (.t 15)),
 O 17 (.mov (.c (I 0)))] [2, 14, 1, 13, 0, 12]) (
 .block 0 (
 .loop [7, 15, 16, 17] L720_0))) (
 sq (.reg [
 O 33 (.mov (.t 7)),
 O 6 (.mov (.t 33))] [7, 33]) (
 .ret))))⟩
def F724 : PF := FidxG (K1 7)
def F767 : PF := ⟨4, [.t 8],
 sq (.reg [
 O 7 (.box K0 (.t 3)),
 O 8 (.mov (.c (.b false)))] [8, 3]) (
 sq (.reg [
 O 9 (.mov (.t 0)),
 O 10 (.mov (.t 1)),
 O 11 (.mov (.t 2)),
 O 12 (.call 0 803 [(.t 9), (.t 10), (.t 11)]),
 O 13 (.mkf 856 [(.t 7)]),
 O 14 (.call 2 855 [(.t 12), (.t 13)]),
 O 8 (.mov (.t 14))] [14, 7, 13, 12, 2, 11, 1, 10, 0, 9]) (
 .ret))⟩
def F768 : PF := ⟨4, [.t 8],
 sq (.reg [
 O 4 (.box (K1 22) (.t 0)),
 O 8 (.mov (.c (I 0)))] [8, 0]) (
 sq (.reg [
 O 14 (.load (K1 22) (.t 4)),
 O 15 (.mov (.t 1)),
 O 16 (.mov (.t 2)),
 O 17 (.call 0 634 [(.t 14), (.t 15), (.t 16)]),
 O 13 (.mov (.t 17)),
 O 18 (.ext (.t 13) 0),
 O 19 (.ext (.t 13) 1),
 O 9 (.mov (.t 18)),
 O 10 (.mov (.t 19))] [19, 18, 13, 17, 16, 15, 14]) (
 sq (.block 0 (
 sq (.reg [
 O 21 (.mov (.t 10)),
 O 22 (.bin .neq (.t 21) (.c (I 0))),
 O 20 (.mov (.t 22))] [22, 21]) (
 .cond (.t 20) (sq (.reg [
 O 23 (.mov (.t 10)),
 O 8 (.mov (.t 23))] [10, 23]) (
 .ret))
 (sq (.reg [
 O 25 (.mov (.t 3)),
 O 26 (.mov (.t 9)),
 O 27 (.bin .gtr (.t 25) (.t 26)),
 O 24 (.mov (.t 27))] [27, 9, 26, 25]) (
 .cond (.t 24) (sq (.reg [
 O 8 (.mov (.c (I 18)))] []) (
 .ret))
 (.skip)))))) (
 sq (.reg [
 O 29 (.load (K1 22) (.t 4)),
 O 30 (.mov (.t 1)),
 O 31 (.mov (.t 2)),
 O 32 (.call 0 24 [(.t 29), (.t 30), (.t 31)]),
 O 28 (.mov (.t 32)),
 O 33 (.ext (.t 28) 0),
 O 34 (.ext (.t 28) 1),
 O 11 (.alloc (K1 19) (.a [(.s []), (.s []), (.s []), (I 0), (I 0), (I 0), (I 0), (.l (K1 2) [] true), (.b false), (I 0), (I 0), (.b false), (.l (K1 2) [] true), (.b false), (I 0), (I 0), (.b false), (.l (K1 10) [] true), (.l (K1 6) [] true)])),
 E (.store (K1 19) (.t 11) (.t 33)),
 O 12 (.mov (.t 34))] [12, 34, 33, 28, 32, 31, 30, 29]) (
 sq (.reg [
 O 35 (.load (K1 22) (.t 4)),
 O 36 (.load (K1 19) (.t 11)),
 O 37 (.mov (.t 1)),
 O 38 (.mov (.t 2)),
 O 39 (.mov (.t 3)),
 O 40 (.call 0 858 [(.t 35), (.t 36), (.t 37), (.t 38), (.t 39)]),
 O 8 (.mov (.t 40))] [40, 3, 39, 2, 38, 1, 37, 11, 36, 4, 35]) (
 .ret)))))⟩
def L801_0 : PC :=
 sq (.reg [
 O 78 (.bin .lss (.t 77) (.t 76))] []) (
 sq (.cond (.t 78) (.skip)
 (.exit 1)) (
 sq (.block 2 (
 sq (.reg [
 O 79 (.iaddr (K1 10) (.t 75) (.t 77)),
 O 80 (.load (K1 10) (.t 79)),
 O 20 (.alloc (K1 10) (.a [(I 0), (I 0), (I 0), (I 0), (I 0), (I 0), (.s []), (.s []), (.l (K1 3) [] true), (.i .u64 0)])),
 E (.store (K1 10) (.t 20) (.t 80))] [80, 79]) (
 sq (.reg [
 O 81 (.faddr 1 (.t 20)),
 O 82 (.load K0 (.t 81)),
 O 83 (.mov (.t 12)),
 O 84 (.bin .geq (.t 82) (.t 83)),
 O 85 (.mov (.t 84)),
 OG 86 85 true (.faddr 1 (.t 20)),
 OG 87 85 true (.load K0 (.t 86)),
 OG 88 85 true (.mov (.t 2)),
 OG 89 85 true (.bin .leq (.t 87) (.t 88)),
 O 90 (.pick (.t 85) (.t 89) (.c (.b false))),
 O 91 (.mov (.t 90)),
 OG 92 91 true (.load (K1 10) (.t 20)),
 OG 93 91 true (.mov (.t 1)),
 OG 94 91 true (.call 0 883 [(.t 92), (.t 93)]),
 O 95 (.pick (.t 91) (.t 94) (.c (.b false)))] [94, 93, 92, 91, 90, 89, 88, 87, 86, 85, 84, 83, 82, 20, 81]) (
 .cond (.t 95) (.reg [
 O 96 (.mov (.t 18)),
 O 97 (.bin .add (.t 96) (.c (I 1))),
 O 18 (.mov (.t 97))] [97, 96])
 (.skip))))) (
 .reg [
 O 98 (.bin .add (.t 77) (.c (I 1))),
 O 77 (.mov (.t 98))] [98])))
def L801_1 : PC :=
 sq (.reg [
 O 106 (.bin .lss (.t 105) (.t 104))] []) (
 sq (.cond (.t 106) (.skip)
 (.exit 3)) (
 sq (.block 4 (
 sq (.reg [
 O 107 (.iaddr K0 (.t 103) (.t 105)),
 O 108 (.load K0 (.t 107)),
 O 22 (.mov (.t 108))] [108, 107]) (
 sq (.reg [
 O 109 (.mov (.t 22)),
 O 110 (.bin .lss (.t 109) (.c (I (-1000000000000)))),
 O 111 (.mov (.t 110)),
 OG 112 111 false (.mov (.t 22)),
 OG 113 111 false (.bin .gtr (.t 112) (.c (I 1000000000000))),
 O 114 (.pick (.t 111) (.c (.b true)) (.t 113))] [113, 112, 111, 110, 22, 109]) (
 .cond (.t 114) (sq (.reg [
 O 8 (.mov (.c (.l (K1 2) [] true))),
 O 9 (.mov (.c (I 6)))] []) (
 .ret))
 (.skip))))) (
 .reg [
 O 115 (.bin .add (.t 105) (.c (I 1))),
 O 105 (.mov (.t 115))] [115])))
def F801 : PF := ⟨4, [.t 8, .t 9],
 sq (.reg [
 O 4 (.box (K1 22) (.t 0)),
 O 8 (.mov (.c (.l (K1 2) [] true))),
 O 9 (.mov (.c (I 0)))] [9, 8, 0]) (
 sq (.reg [
 O 26 (.load (K1 22) (.t 4)),
 O 27 (.mov (.t 1)),
 O 28 (.call 0 12 [(.t 26), (.t 27)]),
 O 25 (.mov (.t 28)),
 O 29 (.ext (.t 25) 0),
 O 30 (.ext (.t 25) 1),
 O 10 (.alloc (K1 7) (.a [(I 0), (I 0), (I 0), (I 0), (.s []), (.s []), (.s [])])),
 E (.store (K1 7) (.t 10) (.t 29)),
 O 11 (.mov (.t 30))] [30, 29, 25, 28, 27, 26]) (
 sq (.block 0 (
 sq (.reg [
 O 32 (.mov (.t 11)),
 O 33 (.un .not (.t 32)),
 O 31 (.mov (.t 33))] [33, 11, 32]) (
 .cond (.t 31) (sq (.reg [
 O 8 (.mov (.c (.l (K1 2) [] true))),
 O 9 (.mov (.c (I 11)))] []) (
 .ret))
 (sq (.reg [
 O 35 (.mov (.t 2)),
 O 36 (.call 0 22 [(.t 35)]),
 O 37 (.un .not (.t 36)),
 O 38 (.mov (.t 37)),
 OG 39 38 false (.load (K1 22) (.t 4)),
 OG 40 38 false (.mov (.t 1)),
 OG 41 38 false (.mov (.t 2)),
 OG 42 38 false (.call 0 39 [(.t 39), (.t 40), (.t 41)]),
 OG 43 38 false (.un .not (.t 42)),
 O 44 (.pick (.t 38) (.c (.b true)) (.t 43)),
 O 34 (.mov (.t 44))] [44, 43, 42, 41, 40, 39, 38, 37, 36, 35]) (
 .cond (.t 34) (sq (.reg [
 O 8 (.mov (.c (.l (K1 2) [] true))),
 O 9 (.mov (.c (I 16)))] []) (
 .ret))
 (.skip)))))) (
 sq (.reg [
 O 45 (.mov (.t 2)),
 O 46 (.call 0 879 [(.t 45)]),
 O 12 (.mov (.t 46))] [46, 45]) (
 sq (.reg [
 O 47 (.faddr 19 (.t 4)),
 O 48 (.load K0 (.t 47)),
 O 49 (.mov (.t 1)),
 O 50 (.call 0 715 [(.t 48), (.t 49)]),
 O 13 (.mov (.t 50)),
 O 14 (.mov (.c (I 0)))] [50, 49, 48, 47]) (
 sq (sq (.reg [
 O 51 (.faddr 19 (.t 4)),
 O 52 (.load K0 (.t 51)),
 O 53 (.mov (.t 1)),
 O 54 (.mov (.t 12)),
 O 55 (.faddr 1 (.t 10)),
 O 56 (.load K0 (.t 55)),
 O 57 (.minmax true [(.t 54), (.t 56)]),
 O 58 (.mov (.t 2)),
 O 59 (.call 0 880 [(.t 52), (.t 53), (.t 57), (.t 58)]),
 O 15 (.mov (.t 59))] [59, 58, 57, 56, 55, 54, 53, 52, 51]) (
 sq (.reg [
 O 60 (.mov (.t 15)),
 O 61 (.len false (.t 60)),
 O 62 (.bin .gtr (.t 61) (.c (I 0)))] [61, 60]) (
 .cond (.t 62) (.reg [
 O 63 (.mov (.t 15)),
 O 64 (.call 0 881 [(.t 63)]),
 O 14 (.mov (.t 64))] [64, 15, 63])
 (.skip)))) (
 sq (.reg [
 O 66 (.faddr 19 (.t 4)),
 O 67 (.load K0 (.t 66)),
 O 68 (.mov (.t 1)),
 O 69 (.mov (.t 12)),
 O 70 (.mov (.t 2)),
 O 71 (.call 0 882 [(.t 67), (.t 68), (.t 69), (.t 70)]),
 O 65 (.mov (.t 71)),
 O 72 (.ext (.t 65) 0),
 O 73 (.ext (.t 65) 1),
 O 16 (.mov (.t 72)),
 O 17 (.mov (.t 73))] [17, 73, 72, 65, 71, 70, 69, 68, 67, 66]) (
 sq (.reg [
 O 18 (.mov (.c (I 0)))] []) (
 sq (sq (.reg [
 O 74 (.faddr 19 (.t 4)),
 O 75 (.load K0 (.t 74)),
 O 76 (.len false (.t 75)),
 O 77 (.mov (.c (I 0)))] [4, 74]) (
 .block 1 (
 .loop [1, 2, 3, 10, 12, 13, 14, 16, 18, 75, 76, 77] L801_0))) (
 sq (sq (.reg [
 O 99 (.mov (.t 13)),
 O 100 (.mov (.t 14)),
 O 101 (.mov (.t 16)),
 O 102 (.mov (.t 3)),
 O 103 (.bsl K0 (I 0) 4 [(0, (.t 99)), (1, (.t 100)), (2, (.t 101)), (3, (.t 102))]),
 O 104 (.len false (.t 103)),
 O 105 (.mov (.c (I 0)))] [102, 101, 100, 99]) (
 .block 3 (
 .loop [2, 3, 10, 13, 14, 16, 18, 103, 104, 105] L801_1))) (
 sq (.reg [
 O 23 (.mov (.f 884))] []) (
 sq (.reg [
 O 24 (.mov (.f 885))] []) (
 sq (.regD [
 O 116 (.mov (.t 23)),
 O 117 (.mov (.t 13)),
 O 118 (.callv (.t 116) [(.t 117)]),
 O 119 (.mov (.t 23)),
 O 120 (.mov (.t 14)),
 O 121 (.callv (.t 119) [(.t 120)]),
 O 122 (.mov (.t 23)),
 O 123 (.mov (.t 16)),
 O 124 (.callv (.t 122) [(.t 123)]),
 O 125 (.mov (.t 23)),
 O 126 (.mov (.t 3)),
 O 127 (.callv (.t 125) [(.t 126)]),
 O 128 (.mov (.t 24)),
 O 129 (.mov (.t 18)),
 O 130 (.callv (.t 128) [(.t 129)]),
 O 131 (.mov (.t 24)),
 O 132 (.mov (.t 2)),
 O 133 (.faddr 1 (.t 10)),
 O 134 (.load K0 (.t 133)),
 O 135 (.bin .sub (.t 132) (.t 134)),
 O 136 (.callv (.t 131) [(.t 135)]),
 O 137 (.mov (.t 2)),
 O 138 (.agg [(I 0), (I 0)] [(0, K0, (.c (I 4))), (1, K0, (.t 137))]),
 O 139 (.bsl (K1 2) (.a [(I 0), (I 0)]) 7 [(0, (.t 118)), (1, (.t 121)), (2, (.t 124)), (3, (.t 127)), (4, (.t 130)), (5, (.t 136)), (6, (.t 138))]),
 O 8 (.mov (.t 139)),
 O 9 (.mov (.c (I 0)))] [0, 0, 3, 0, 0, 31, 0, 0, 255, 0, 0, 2047, 0, 0, 16383, 0, 0, 0, 131072, 458752, 1048575, 0, 2097152, 8388607, 16777215, 33554431] [139, 138, 137, 136, 135, 134, 10, 133, 2, 132, 131, 130, 18, 129, 24, 128, 127, 3, 126, 125, 124, 16, 123, 122, 121, 14, 120, 119, 118, 13, 117, 23, 116]) (
 .ret)))))))))))))⟩
def L803_0 : PC :=
 sq (.reg [
 O 13 (.bin .lss (.t 12) (.t 11))] []) (
 sq (.cond (.t 13) (.skip)
 (.exit 0)) (
 sq (.block 1 (
 sq (.reg [
 O 14 (.iaddr (K1 7) (.t 10) (.t 12)),
 O 15 (.load (K1 7) (.t 14)),
 O 9 (.alloc (K1 7) (.a [(I 0), (I 0), (I 0), (I 0), (I 0), (I 0), (.s [])])),
 E (.store (K1 7) (.t 9) (.t 15))] [15, 14]) (
 sq (.reg [
 O 16 (.faddr 1 (.t 9)),
 O 17 (.load K0 (.t 16)),
 O 18 (.mov (.t 1)),
 O 19 (.bin .eql (.t 17) (.t 18)),
 O 20 (.mov (.t 19)),
 OG 21 20 true (.faddr 4 (.t 9)),
 OG 22 20 true (.load K0 (.t 21)),
 OG 23 20 true (.mov (.t 2)),
 OG 24 20 true (.bin .leq (.t 22) (.t 23)),
 O 25 (.pick (.t 20) (.t 24) (.c (.b false))),
 O 26 (.mov (.t 25)),
 OG 27 26 true (.mov (.t 2)),
 OG 28 26 true (.faddr 5 (.t 9)),
 OG 29 26 true (.load K0 (.t 28)),
 OG 30 26 true (.bin .leq (.t 27) (.t 29)),
 O 31 (.pick (.t 26) (.t 30) (.c (.b false)))] [30, 29, 28, 27, 26, 25, 24, 23, 22, 21, 20, 19, 18, 17, 16]) (
 .cond (.t 31) (.reg [
 O 32 (.mov (.t 7)),
 O 33 (.load (K1 7) (.t 9)),
 O 34 (.bsl (K1 7) (.a [(I 0), (I 0), (I 0), (I 0), (I 0), (I 0), (.s [])]) 1 [(0, (.t 33))]),
 O 35 (.app (K1 7) 64 (.t 32) (.t 34)),
 O 7 (.mov (.t 35))] [35, 34, 9, 33, 32])
 (.skip))))) (
 .reg [
 O 36 (.bin .add (.t 12) (.c (I 1))),
 O 12 (.mov (.t 36))] [36])))
def F803 : PF := ⟨3, [.t 6],
 sq (.reg [
 O 6 (.mov (.c (.l (K1 7) [] true)))] [6]) (
 sq (.reg [
 O 7 (.mov (.c (.l (K1 7) [] true)))] []) (
 sq (sq (.reg [
 O 10 (.mov (.t 0)),
 O 11 (.len false (.t 10)),
 O 12 (.mov (.c (I 0)))] [0]) (
 .block 0 (
 .loop [1, 2, 7, 10, 11, 12] L803_0))) (
 sq (.reg [
 O 37 (.mov (.t 7)),
 O 6 (.mov (.t 37))] [7, 37]) (
 .ret))))⟩
def F804 : PF := ⟨1, [.t 2],
 sq (.reg [
 O 1 (.box (K1 7) (.t 0)),
 O 2 (.mov (.c .ni))] [2, 0]) (
 sq (sq (.reg [
 O 3 (.faddr 2 (.t 1)),
 O 4 (.load K0 (.t 3))] [3]) (
 .block 0 (
 sq (.reg [
 O 6 (.bin .eql (.t 4) (.c (I 1))),
 O 5 (.mov (.t 6))] [6]) (
 .cond (.t 5) (sq (.reg [
 O 7 (.agg [] []),
 O 8 (.mkif 185 (.t 7)),
 O 2 (.mov (.t 8))] [8, 7]) (
 .ret))
 (sq (.reg [
 O 10 (.bin .eql (.t 4) (.c (I 2))),
 O 9 (.mov (.t 10))] [10]) (
 .cond (.t 9) (sq (.reg [
 O 11 (.agg [] []),
 O 12 (.mkif 186 (.t 11)),
 O 2 (.mov (.t 12))] [12, 11]) (
 .ret))
 (sq (.reg [
 O 14 (.bin .eql (.t 4) (.c (I 3))),
 O 13 (.mov (.t 14))] [14]) (
 .cond (.t 13) (sq (.reg [
 O 15 (.agg [] []),
 O 16 (.mkif 187 (.t 15)),
 O 2 (.mov (.t 16))] [16, 15]) (
 .ret))
 (sq (.reg [
 O 18 (.bin .eql (.t 4) (.c (I 4))),
 O 17 (.mov (.t 18))] [4, 18]) (
 .cond (.t 17) (sq (.reg [
 O 19 (.faddr 3 (.t 1)),
 O 20 (.load K0 (.t 19)),
 O 21 (.agg [(I 0)] [(0, K0, (.t 20))]),
 O 22 (.mkif 128 (.t 21)),
 O 2 (.mov (.t 22))] [22, 21, 20, 1, 19]) (
 .ret))
 (.skip))))))))))) (
 sq (.reg [
 O 23 (.agg [] []),
 O 24 (.mkif 188 (.t 23)),
 O 2 (.mov (.t 24))] [24, 23]) (
 .ret)))⟩
def F855 : PF := ⟨2, [.t 4],
 sq (.reg [
 O 4 (.mov (.c (.b false)))] [4]) (
 sq (.reg [
 O 5 (.mov (.t 0)),
 O 6 (.mov (.t 1)),
 O 7 (.call 2 724 [(.t 5), (.t 6)]),
 O 8 (.bin .geq (.t 7) (.c (I 0))),
 O 4 (.mov (.t 8))] [8, 7, 1, 6, 0, 5]) (
 .ret))⟩
def F856 : PF := ⟨2, [.t 3],
 sq (.reg [
 O 2 (.box (K1 7) (.t 0)),
 O 3 (.mov (.c (.b false)))] [3, 0]) (
 sq (.reg [
 O 4 (.load (K1 7) (.t 2)),
 O 5 (.load K0 (.t 1)),
 O 6 (.call 0 857 [(.t 4), (.t 5)]),
 O 3 (.mov (.t 6))] [6, 1, 5, 2, 4]) (
 .ret))⟩
def F857 : PF := ⟨2, [.t 4],
 sq (.reg [
 O 2 (.box (K1 7) (.t 0)),
 O 4 (.mov (.c (.b false)))] [4, 0]) (
 sq (sq (.reg [
 O 5 (.load (K1 7) (.t 2)),
 O 6 (.call 0 804 [(.t 5)])] [2, 5]) (
 .block 0 (
 sq (.reg [
 O 7 (.tas 185 (.a []) true (.t 6)),
 O 8 (.ext (.t 7) 1),
 O 9 (.ext (.t 7) 0)] [9, 7]) (
 .cond (.t 8) (sq (.reg [
 O 4 (.mov (.c (.b true)))] []) (
 .ret))
 (sq (.reg [
 O 10 (.tas 186 (.a []) true (.t 6)),
 O 11 (.ext (.t 10) 1),
 O 12 (.ext (.t 10) 0)] [12, 10]) (
 .cond (.t 11) (sq (.reg [
 O 13 (.mov (.t 1)),
 O 14 (.bin .gtr (.t 13) (.c (I 0))),
 O 4 (.mov (.t 14))] [14, 1, 13]) (
 .ret))
 (sq (.reg [
 O 15 (.tas 187 (.a []) true (.t 6)),
 O 16 (.ext (.t 15) 1),
 O 17 (.ext (.t 15) 0)] [17, 6, 15]) (
 .cond (.t 16) (sq (.reg [
 O 18 (.mov (.t 1)),
 O 19 (.bin .lss (.t 18) (.c (I 0))),
 O 4 (.mov (.t 19))] [19, 1, 18]) (
 .ret))
 (.skip))))))))) (
 sq (.reg [
 O 4 (.mov (.c (.b false)))] []) (
 .ret)))⟩
def L858_0 : PC :=
 sq (.reg [
 O 39 (.bin .lss (.t 38) (.t 37))] []) (
 sq (.cond (.t 39) (.skip)
 (.exit 0)) (
 sq (.block 1 (
 sq (.reg [
 O 40 (.iaddr (K1 6) (.t 36) (.t 38)),
 O 41 (.load (K1 6) (.t 40)),
 O 14 (.alloc (K1 6) (.a [(.s []), (I 0), (I 0), (I 0), (.s []), (.l (K1 4) [] true)])),
 E (.store (K1 6) (.t 14) (.t 41))] [41, 40]) (
 sq (.regD [
 O 43 (.faddr 2 (.t 14)),
 O 44 (.load (K1 4) (.t 43)),
 O 45 (.call 0 371 []),
 O 46 (.mov (.t 11)),
 O 47 (.call 0 916 [(.t 44), (.t 45), (.t 46)]),
 O 42 (.mov (.t 47)),
 O 48 (.ext (.t 42) 0),
 O 49 (.ext (.t 42) 1),
 O 15 (.alloc (K1 2) (.a [(I 0), (I 0)])),
 E (.store (K1 2) (.t 15) (.t 48)),
 O 16 (.mov (.t 49))] [0, 1, 0, 0, 15, 31, 63, 63, 0, 383, 1023] [49, 48, 42, 47, 46, 45, 44, 43]) (
 sq (sq (.reg [
 O 50 (.mov (.t 16)),
 O 51 (.bin .neq (.t 50) (.c (I 0)))] [50]) (
 .cond (.t 51) (sq (.reg [
 O 52 (.mov (.t 16)),
 O 10 (.mov (.t 52))] [16, 52]) (
 .ret))
 (.skip))) (
 sq (.reg [
 O 53 (.mov (.t 4)),
 O 17 (.mov (.t 53))] [53]) (
 sq (sq (.reg [
 O 55 (.faddr 1 (.t 14)),
 O 56 (.load K0 (.t 55)),
 O 57 (.call 2 917 [(.t 56)]),
 O 54 (.mov (.t 57)),
 O 58 (.ext (.t 54) 0),
 O 59 (.ext (.t 54) 1),
 O 18 (.alloc (K1 1) (.a [.nf])),
 E (.store (K1 1) (.t 18) (.t 58)),
 O 19 (.mov (.t 59))] [59, 58, 54, 57, 56, 14, 55]) (
 sq (.reg [
 O 60 (.mov (.t 19))] [19]) (
 .cond (.t 60) (.regD [
 O 61 (.mov (.t 17)),
 O 62 (.load (K1 22) (.t 5)),
 O 63 (.mov (.t 2)),
 O 64 (.faddr 0 (.t 18)),
 O 65 (.load K0 (.t 64)),
 O 66 (.mov (.t 3)),
 O 67 (.callv (.t 65) [(.t 66)]),
 O 68 (.mov (.t 3)),
 O 69 (.call 0 918 [(.t 62), (.t 63), (.t 67), (.t 68)]),
 O 70 (.bin .add (.t 61) (.t 69)),
 O 17 (.mov (.t 70))] [0, 0, 0, 0, 8, 0, 56, 0, 254, 511, 1023] [70, 69, 68, 67, 66, 65, 18, 64, 63, 62, 61])
 (.skip)))) (
 sq (.reg [
 O 71 (.mov (.t 17)),
 O 72 (.faddr 1 (.t 15)),
 O 73 (.load K0 (.t 72)),
 O 74 (.bin .gtr (.t 71) (.t 73))] [73, 15, 72, 17, 71]) (
 .cond (.t 74) (sq (.reg [
 O 10 (.mov (.c (I 20)))] []) (
 .ret))
 (.skip))))))))) (
 .reg [
 O 75 (.bin .add (.t 38) (.c (I 1))),
 O 38 (.mov (.t 75))] [75])))
def F858 : PF := ⟨5, [.t 10],
 sq (.reg [
 O 5 (.box (K1 22) (.t 0)),
 O 6 (.box (K1 19) (.t 1)),
 O 10 (.mov (.c (I 0)))] [10, 1, 0]) (
 sq (sq (.reg [
 O 20 (.faddr 18 (.t 6)),
 O 21 (.load K0 (.t 20)),
 O 22 (.len false (.t 21)),
 O 23 (.bin .eql (.t 22) (.c (I 0)))] [22, 21, 20]) (
 .cond (.t 23) (sq (.reg [
 O 10 (.mov (.c (I 0)))] []) (
 .ret))
 (.skip))) (
 sq (.reg [
 O 25 (.load (K1 22) (.t 5)),
 O 26 (.mov (.t 2)),
 O 27 (.mov (.t 3)),
 O 28 (.mov (.t 4)),
 O 29 (.call 0 801 [(.t 25), (.t 26), (.t 27), (.t 28)]),
 O 24 (.mov (.t 29)),
 O 30 (.ext (.t 24) 0),
 O 31 (.ext (.t 24) 1),
 O 11 (.mov (.t 30)),
 O 12 (.mov (.t 31))] [31, 30, 24, 29, 28, 27, 26, 25]) (
 sq (sq (.reg [
 O 32 (.mov (.t 12)),
 O 33 (.bin .neq (.t 32) (.c (I 0)))] [32]) (
 .cond (.t 33) (sq (.reg [
 O 34 (.mov (.t 12)),
 O 10 (.mov (.t 34))] [12, 34]) (
 .ret))
 (.skip))) (
 sq (sq (.reg [
 O 35 (.faddr 18 (.t 6)),
 O 36 (.load K0 (.t 35)),
 O 37 (.len false (.t 36)),
 O 38 (.mov (.c (I 0)))] [6, 35]) (
 .block 0 (
 .loop [2, 3, 4, 5, 11, 36, 37, 38] L858_0))) (
 sq (.reg [
 O 10 (.mov (.c (I 0)))] []) (
 .ret))))))⟩
def F879 : PF := ⟨1, [.t 2],
 sq (.reg [
 O 2 (.mov (.c (I 0)))] [2]) (
 sq (.reg [
 O 9 (.mov (.t 0)),
 O 10 (.call 0 65 [(.t 9)]),
 O 8 (.mov (.t 10)),
 O 11 (.ext (.t 8) 0),
 O 12 (.ext (.t 8) 1),
 O 13 (.ext (.t 8) 2),
 O 3 (.mov (.t 11)),
 O 4 (.mov (.t 12)),
 O 5 (.mov (.t 13))] [5, 13, 12, 11, 8, 10, 0, 9]) (
 sq (.reg [
 O 15 (.mov (.t 3)),
 O 16 (.mov (.t 4)),
 O 17 (.call 0 933 [(.t 15), (.t 16), (.c (I 1))]),
 O 14 (.mov (.t 17)),
 O 18 (.ext (.t 14) 0),
 O 19 (.ext (.t 14) 1),
 O 6 (.mov (.t 18)),
 O 7 (.mov (.t 19))] [7, 19, 18, 14, 17, 4, 16, 3, 15]) (
 sq (.reg [
 O 20 (.mov (.t 6)),
 O 2 (.mov (.t 20))] [6, 20]) (
 .ret))))⟩
def L880_0 : PC :=
 sq (.reg [
 O 10 (.alloc (K1 10) (.a [(I 0), (I 0), (I 0), (I 0), (I 0), (I 0), (.s []), (.s []), (.l (K1 3) [] true), (.i .u64 0)])),
 E (.store (K1 10) (.t 10) (.t 40))] [40]) (
 .reg [
 O 11 (.mov (.t 41))] [41])
def L880_1 : PC :=
 .block 1 (
 sq (.reg [
 O 42 (.faddr 2 (.t 10)),
 O 43 (.load K0 (.t 42)),
 O 44 (.load K0 (.t 7)),
 O 45 (.bin .leq (.t 43) (.t 44))] [7, 44, 43, 42]) (
 .cond (.t 45) (.reg [
 O 46 (.load K0 (.t 9)),
 O 47 (.load K0 (.t 6)),
 O 48 (.faddr 2 (.t 10)),
 O 49 (.load K0 (.t 48)),
 O 50 (.minmax true [(.t 47), (.t 49)]),
 O 51 (.load K0 (.t 6)),
 O 52 (.bin .sub (.t 50) (.t 51)),
 O 53 (.iaddr K0 (.t 46) (.t 52)),
 O 54 (.load K0 (.t 53)),
 O 55 (.mov (.t 11)),
 O 56 (.bin .sub (.t 54) (.t 55)),
 O 57 (.iaddr K0 (.t 46) (.t 52)),
 E (.store K0 (.t 57) (.t 56))] [57, 56, 11, 55, 54, 53, 52, 51, 50, 49, 10, 48, 6, 47, 9, 46])
 (.skip)))
def L880_2 : PC :=
 sq (sq (.reg [
 O 58 (.mov (.t 12)),
 O 59 (.load K0 (.t 9)),
 O 60 (.len false (.t 59)),
 O 61 (.bin .lss (.t 58) (.t 60))] [60, 59, 58]) (
 .cond (.t 61) (.skip)
 (.exit 2))) (
 sq (.block 3 (
 .regD [
 O 64 (.load K0 (.t 9)),
 O 65 (.mov (.t 12)),
 O 66 (.iaddr K0 (.t 64) (.t 65)),
 O 67 (.load K0 (.t 66)),
 O 68 (.load K0 (.t 9)),
 O 69 (.mov (.t 12)),
 O 70 (.bin .sub (.t 69) (.c (I 1))),
 O 71 (.iaddr K0 (.t 68) (.t 70)),
 O 72 (.load K0 (.t 71)),
 O 73 (.bin .add (.t 67) (.t 72)),
 O 74 (.iaddr K0 (.t 64) (.t 65)),
 E (.store K0 (.t 74) (.t 73))] [0, 0, 3, 7, 0, 0, 32, 112, 240, 511, 1023, 2047] [74, 73, 72, 71, 70, 69, 68, 67, 66, 65, 64])) (
 .reg [
 O 62 (.mov (.t 12)),
 O 63 (.bin .add (.t 62) (.c (I 1))),
 O 12 (.mov (.t 63))] [63, 62]))
def F880 : PF := ⟨4, [.t 8],
 sq (.reg [
 O 6 (.box K0 (.t 2)),
 O 7 (.box K0 (.t 3)),
 O 8 (.mov (.c (.l K0 [] true)))] [8, 3, 2]) (
 sq (sq (.reg [
 O 13 (.load K0 (.t 6)),
 O 14 (.call 0 22 [(.t 13)]),
 O 15 (.un .not (.t 14)),
 O 16 (.mov (.t 15)),
 OG 17 16 false (.load K0 (.t 7)),
 OG 18 16 false (.call 0 22 [(.t 17)]),
 OG 19 16 false (.un .not (.t 18)),
 O 20 (.pick (.t 16) (.c (.b true)) (.t 19)),
 O 21 (.mov (.t 20)),
 OG 22 21 false (.load K0 (.t 6)),
 OG 23 21 false (.load K0 (.t 7)),
 OG 24 21 false (.bin .gtr (.t 22) (.t 23)),
 O 25 (.pick (.t 21) (.c (.b true)) (.t 24)),
 O 26 (.mov (.t 25)),
 OG 27 26 false (.load K0 (.t 7)),
 OG 28 26 false (.load K0 (.t 6)),
 OG 29 26 false (.bin .sub (.t 27) (.t 28)),
 OG 30 26 false (.bin .geq (.t 29) (.c (I 4000))),
 O 31 (.pick (.t 26) (.c (.b true)) (.t 30))] [30, 29, 28, 27, 26, 25, 24, 23, 22, 21, 20, 19, 18, 17, 16, 15, 14, 13]) (
 .cond (.t 31) (sq (.reg [
 O 8 (.mov (.c (.l K0 [] true)))] []) (
 .ret))
 (.skip))) (
 sq (.reg [
 O 32 (.load K0 (.t 7)),
 O 33 (.load K0 (.t 6)),
 O 34 (.bin .sub (.t 32) (.t 33)),
 O 35 (.bin .add (.t 34) (.c (I 1))),
 O 36 (.mksl K0 8 (I 0) (.t 35) (.t 35)),
 O 9 (.alloc K0 (.l K0 [] true)),
 E (.store K0 (.t 9) (.t 36))] [36, 35, 34, 33, 32]) (
 sq (sq (.reg [
 O 37 (.mov (.t 0)),
 O 38 (.mov (.t 1)),
 O 39 (.call 2 50 [(.t 37), (.t 38)])] [1, 38, 0, 37]) (
 .block 0 (
 .rng (.t 39) 100041 [40, 41] [6, 7, 9] L880_0 L880_1))) (
 sq (sq (.reg [
 O 12 (.mov (.c (I 1)))] []) (
 .block 2 (
 .loop [9, 12] L880_2))) (
 sq (.reg [
 O 75 (.load K0 (.t 9)),
 O 8 (.mov (.t 75))] [9, 75]) (
 .ret))))))⟩
def L881_0 : PC :=
 sq (sq (.reg [
 O 12 (.mov (.t 4)),
 O 13 (.mov (.t 0)),
 O 14 (.len false (.t 13)),
 O 15 (.bin .lss (.t 12) (.t 14))] [14, 13, 12]) (
 .cond (.t 15) (.skip)
 (.exit 0))) (
 sq (.block 1 (
 .reg [
 O 18 (.mov (.t 3)),
 O 19 (.mov (.t 0)),
 O 20 (.mov (.t 4)),
 O 21 (.iaddr K0 (.t 19) (.t 20)),
 O 22 (.load K0 (.t 21)),
 O 23 (.minmax false [(.t 18), (.t 22)]),
 O 3 (.mov (.t 23))] [23, 22, 21, 20, 19, 18])) (
 .reg [
 O 16 (.mov (.t 4)),
 O 17 (.bin .add (.t 16) (.c (I 1))),
 O 4 (.mov (.t 17))] [17, 16]))
def F881 : PF := ⟨1, [.t 2],
 sq (.reg [
 O 2 (.mov (.c (I 0)))] [2]) (
 sq (sq (.reg [
 O 5 (.mov (.t 0)),
 O 6 (.len false (.t 5)),
 O 7 (.bin .lss (.t 6) (.c (I 1)))] [6, 5]) (
 .cond (.t 7) (.reg [
 O 8 (.mkif 9 (.c (.s [115, 108, 105, 99, 101, 115, 46, 77, 105, 110, 58, 32, 101, 109, 112, 116, 121, 32, 108, 105, 115, 116]))),
 E (.bad)] [8])
 (.skip))) (
 sq (.reg [
 O 9 (.mov (.t 0)),
 O 10 (.iaddr K0 (.t 9) (.c (I 0))),
 O 11 (.load K0 (.t 10)),
 O 3 (.mov (.t 11))] [11, 10, 9]) (
 sq (sq (.reg [
 O 4 (.mov (.c (I 1)))] []) (
 .block 0 (
 .loop [0, 3, 4] L881_0))) (
 sq (.reg [
 O 24 (.mov (.t 3)),
 O 2 (.mov (.t 24))] [3, 24]) (
 .ret)))))⟩
def L882_0 : PC :=
 sq (.reg [
 O 12 (.alloc (K1 10) (.a [(I 0), (I 0), (I 0), (I 0), (I 0), (I 0), (.s []), (.s []), (.l (K1 3) [] true), (.i .u64 0)])),
 E (.store (K1 10) (.t 12) (.t 17))] [17]) (
 .reg [
 O 13 (.mov (.t 18))] [18])
def L882_1 : PC :=
 .block 1 (
 .block 2 (
 sq (.reg [
 O 23 (.faddr 1 (.t 12)),
 O 24 (.load K0 (.t 23)),
 O 25 (.load K0 (.t 6)),
 O 26 (.bin .lss (.t 24) (.t 25)),
 O 27 (.mov (.t 26)),
 OG 28 27 false (.faddr 1 (.t 12)),
 OG 29 27 false (.load K0 (.t 28)),
 OG 30 27 false (.load K0 (.t 7)),
 OG 31 27 false (.bin .gtr (.t 29) (.t 30)),
 O 32 (.pick (.t 27) (.c (.b true)) (.t 31)),
 O 22 (.mov (.t 32))] [32, 31, 7, 30, 29, 28, 27, 26, 6, 25, 24, 12, 23]) (
 .cond (.t 22) (.skip)
 (sq (.reg [
 O 34 (.mov (.t 13)),
 O 35 (.bin .gtr (.t 34) (.c (I 0))),
 O 33 (.mov (.t 35))] [35, 34]) (
 .cond (.t 33) (.reg [
 O 36 (.load K0 (.t 10)),
 O 37 (.mov (.t 13)),
 O 38 (.bin .add (.t 36) (.t 37)),
 E (.store K0 (.t 10) (.t 38))] [38, 13, 37, 10, 36])
 (.reg [
 O 19 (.load K0 (.t 11)),
 O 20 (.mov (.t 13)),
 O 21 (.bin .sub (.t 19) (.t 20)),
 E (.store K0 (.t 11) (.t 21))] [21, 13, 20, 11, 19]))))))
def F882 : PF := ⟨4, [.t 8, .t 9],
 sq (.reg [
 O 6 (.box K0 (.t 2)),
 O 7 (.box K0 (.t 3)),
 O 8 (.mov (.c (I 0))),
 O 9 (.mov (.c (I 0)))] [9, 8, 3, 2]) (
 sq (.reg [
 O 10 (.alloc K0 (I 0)),
 O 11 (.alloc K0 (I 0)),
 E (.store K0 (.t 10) (.c (I 0))),
 E (.store K0 (.t 11) (.c (I 0)))] []) (
 sq (sq (.reg [
 O 14 (.mov (.t 0)),
 O 15 (.mov (.t 1)),
 O 16 (.call 2 50 [(.t 14), (.t 15)])] [1, 15, 0, 14]) (
 .block 0 (
 .rng (.t 16) 100018 [17, 18] [6, 7, 10, 11] L882_0 L882_1))) (
 sq (.regD [
 O 39 (.load K0 (.t 10)),
 O 40 (.load K0 (.t 11)),
 O 8 (.mov (.t 39)),
 O 9 (.mov (.t 40))] [0, 0, 1, 7] [11, 40, 10, 39]) (
 .ret))))⟩
def F883 : PF := ⟨2, [.t 4],
 sq (.reg [
 O 2 (.box (K1 10) (.t 0)),
 O 3 (.box K0 (.t 1)),
 O 4 (.mov (.c (.b false)))] [4, 1, 0]) (
 sq (.reg [
 O 5 (.faddr 8 (.t 2)),
 O 6 (.load K0 (.t 5)),
 O 7 (.mkf 934 [(.t 3)]),
 O 8 (.call 2 708 [(.t 6), (.t 7)]),
 O 4 (.mov (.t 8))] [8, 3, 7, 6, 2, 5]) (
 .ret))⟩
def F884 : PF := ⟨1, [.c 2 (K1 2)],
 sq (.reg [
 O 2 (.alloc (K1 2) (.a [(I 0), (I 0)]))] []) (
 sq (.reg [
 O 3 (.mov (.t 0)),
 O 4 (.agg [(I 0), (I 0)] [(0, K0, (.c (I 2))), (1, K0, (.t 3))]),
 E (.store (K1 2) (.t 2) (.t 4))] [4, 0, 3]) (
 .ret))⟩
def F885 : PF := ⟨1, [.c 2 (K1 2)],
 sq (.reg [
 O 2 (.alloc (K1 2) (.a [(I 0), (I 0)]))] []) (
 sq (.reg [
 O 3 (.mov (.t 0)),
 O 4 (.agg [(I 0), (I 0)] [(0, K0, (.c (I 1))), (1, K0, (.t 3))]),
 E (.store (K1 2) (.t 2) (.t 4))] [4, 0, 3]) (
 .ret))⟩
def F916 : PF := ⟨3, [.c 6 (K1 2), .t 7],
 sq (.reg [
 O 3 (.box (K1 4) (.t 0)),
 O 6 (.alloc (K1 2) (.a [(I 0), (I 0)])),
 O 7 (.mov (.c (I 0)))] [7, 0]) (
 sq (sq (.reg [
 O 11 (.mov (.t 1)),
 O 12 (.call 0 945 [(.t 11)]),
 O 8 (.mov (.t 12))] [12, 11]) (
 sq (.reg [
 O 13 (.mov (.t 8)),
 O 14 (.bin .neq (.t 13) (.c (I 0)))] [13]) (
 .cond (.t 14) (sq (.reg [
 O 15 (.agg [(I 0), (I 0)] []),
 O 16 (.mov (.t 8)),
 E (.store (K1 2) (.t 6) (.t 15)),
 O 7 (.mov (.t 16))] [8, 16, 15]) (
 .ret))
 (.skip)))) (
 sq (sq (.reg [
 O 18 (.load (K1 4) (.t 3)),
 O 19 (.mov (.t 1)),
 O 20 (.call 0 387 [(.t 18), (.t 19)]),
 O 17 (.mov (.t 20)),
 O 21 (.ext (.t 17) 0),
 O 22 (.ext (.t 17) 1),
 O 9 (.mov (.t 21)),
 O 10 (.mov (.t 22))] [9, 22, 21, 17, 20, 19, 18]) (
 sq (.reg [
 O 23 (.mov (.t 10)),
 O 24 (.bin .neq (.t 23) (.c (I 0)))] [23]) (
 .cond (.t 24) (sq (.reg [
 O 25 (.agg [(I 0), (I 0)] []),
 O 26 (.mov (.t 10)),
 E (.store (K1 2) (.t 6) (.t 25)),
 O 7 (.mov (.t 26))] [10, 26, 25]) (
 .ret))
 (.skip)))) (
 sq (sq (.reg [
 O 27 (.mov (.t 1)),
 O 28 (.mov (.t 2)),
 O 29 (.call 0 946 [(.t 27), (.t 28)]),
 O 30 (.un .not (.t 29))] [29, 28, 27]) (
 .cond (.t 30) (sq (.reg [
 O 31 (.agg [(I 0), (I 0)] []),
 E (.store (K1 2) (.t 6) (.t 31)),
 O 7 (.mov (.c (I 1)))] [31]) (
 .ret))
 (.skip))) (
 sq (.reg [
 O 32 (.load (K1 4) (.t 3)),
 O 33 (.mov (.t 1)),
 O 34 (.mov (.t 2)),
 O 35 (.call 0 947 [(.t 32), (.t 33), (.t 34)]),
 O 36 (.ext (.t 35) 0),
 O 37 (.ext (.t 35) 1),
 E (.store (K1 2) (.t 6) (.t 36)),
 O 7 (.mov (.t 37))] [37, 36, 35, 2, 34, 1, 33, 3, 32]) (
 .ret)))))⟩
def F917 : PF := ⟨1, [.c 2 (K1 1), .t 3],
 sq (.reg [
 O 2 (.alloc (K1 1) (.a [.nf])),
 O 3 (.mov (.c (.b false)))] [3]) (
 sq (sq (.reg [
 O 4 (.mov (.t 0))] [0]) (
 .block 0 (
 sq (.reg [
 O 6 (.bin .eql (.t 4) (.c (I 2))),
 O 5 (.mov (.t 6))] [6]) (
 .cond (.t 5) (sq (.reg [
 O 7 (.agg [.nf] [(0, K0, (.f 948))]),
 E (.store (K1 1) (.t 2) (.t 7)),
 O 3 (.mov (.c (.b true)))] [7]) (
 .ret))
 (sq (.reg [
 O 9 (.bin .eql (.t 4) (.c (I 3))),
 O 8 (.mov (.t 9))] [4, 9]) (
 .cond (.t 8) (sq (.reg [
 O 10 (.agg [.nf] [(0, K0, (.f 879))]),
 E (.store (K1 1) (.t 2) (.t 10)),
 O 3 (.mov (.c (.b true)))] [10]) (
 .ret))
 (.skip))))))) (
 sq (.reg [
 O 11 (.agg [.nf] []),
 E (.store (K1 1) (.t 2) (.t 11)),
 O 3 (.mov (.c (.b false)))] [11]) (
 .ret)))⟩
def L918_0 : PC :=
 sq (.reg [
 O 41 (.bin .lss (.t 40) (.t 39))] []) (
 sq (.cond (.t 41) (.skip)
 (.exit 2)) (
 sq (.block 3 (
 sq (.reg [
 O 42 (.iaddr (K1 3) (.t 38) (.t 40)),
 O 43 (.load (K1 3) (.t 42)),
 O 14 (.alloc (K1 3) (.a [(I 0), (I 0), (.s [])])),
 E (.store (K1 3) (.t 14) (.t 43))] [43, 42]) (
 sq (.reg [
 O 44 (.faddr 0 (.t 14)),
 O 45 (.load K0 (.t 44)),
 O 46 (.mov (.t 1)),
 O 47 (.bin .eql (.t 45) (.t 46))] [46, 45, 44]) (
 .cond (.t 47) (.reg [
 O 48 (.mov (.t 12)),
 O 49 (.faddr 1 (.t 14)),
 O 50 (.load K0 (.t 49)),
 O 51 (.bin .add (.t 48) (.t 50)),
 O 12 (.mov (.t 51))] [51, 50, 14, 49, 48])
 (.skip))))) (
 .reg [
 O 52 (.bin .add (.t 40) (.c (I 1))),
 O 40 (.mov (.t 52))] [52])))
def L918_1 : PC :=
 sq (.reg [
 O 19 (.bin .lss (.t 18) (.t 17))] []) (
 sq (.cond (.t 19) (.skip)
 (.exit 0)) (
 sq (.block 1 (
 sq (.reg [
 O 20 (.iaddr (K1 10) (.t 16) (.t 18)),
 O 21 (.load (K1 10) (.t 20)),
 O 11 (.alloc (K1 10) (.a [(I 0), (I 0), (I 0), (I 0), (I 0), (I 0), (.s []), (.s []), (.l (K1 3) [] true), (.i .u64 0)])),
 E (.store (K1 10) (.t 11) (.t 21))] [21, 20]) (
 sq (sq (.reg [
 O 22 (.load (K1 10) (.t 11)),
 O 23 (.call 0 949 [(.t 22)]),
 O 24 (.un .not (.t 23)),
 O 25 (.mov (.t 24)),
 OG 26 25 false (.faddr 1 (.t 11)),
 OG 27 25 false (.load K0 (.t 26)),
 OG 28 25 false (.mov (.t 2)),
 OG 29 25 false (.bin .lss (.t 27) (.t 28)),
 O 30 (.pick (.t 25) (.c (.b true)) (.t 29)),
 O 31 (.mov (.t 30)),
 OG 32 31 false (.faddr 1 (.t 11)),
 OG 33 31 false (.load K0 (.t 32)),
 OG 34 31 false (.mov (.t 3)),
 OG 35 31 false (.bin .gtr (.t 33) (.t 34)),
 O 36 (.pick (.t 31) (.c (.b true)) (.t 35))] [35, 34, 33, 32, 31, 30, 29, 28, 27, 26, 25, 24, 23, 22]) (
 .cond (.t 36) (.exit 1)
 (.skip))) (
 sq (.reg [
 O 12 (.mov (.c (I 0)))] []) (
 sq (sq (.reg [
 O 37 (.faddr 8 (.t 11)),
 O 38 (.load K0 (.t 37)),
 O 39 (.len false (.t 38)),
 O 40 (.mov (.c (I 0)))] [11, 37]) (
 .block 2 (
 .loop [1, 2, 3, 9, 12, 16, 17, 18, 38, 39, 40] L918_0))) (
 .reg [
 O 53 (.mov (.t 9)),
 O 54 (.mov (.t 12)),
 O 55 (.minmax true [(.c (I 0)), (.t 54)]),
 O 56 (.bin .add (.t 53) (.t 55)),
 O 9 (.mov (.t 56))] [56, 55, 12, 54, 53])))))) (
 .reg [
 O 57 (.bin .add (.t 18) (.c (I 1))),
 O 18 (.mov (.t 57))] [57])))
def F918 : PF := ⟨4, [.t 8],
 sq (.reg [
 O 4 (.box (K1 22) (.t 0)),
 O 8 (.mov (.c (I 0)))] [8, 0]) (
 sq (.reg [
 O 9 (.mov (.c (I 0)))] []) (
 sq (sq (.reg [
 O 15 (.faddr 19 (.t 4)),
 O 16 (.load K0 (.t 15)),
 O 17 (.len false (.t 16)),
 O 18 (.mov (.c (I 0)))] [4, 15]) (
 .block 0 (
 .loop [1, 2, 3, 9, 16, 17, 18] L918_1))) (
 sq (.reg [
 O 58 (.mov (.t 9)),
 O 8 (.mov (.t 58))] [9, 58]) (
 .ret))))⟩
def L933_0 : PC :=
 sq (sq (.reg [
 O 40 (.mov (.t 9)),
 O 41 (.mov (.t 1)),
 O 42 (.bin .lss (.t 40) (.t 41))] [41, 40]) (
 .cond (.t 42) (.skip)
 (.exit 0))) (
 sq (.block 1 (
 .reg [
 O 45 (.mov (.t 8)),
 O 46 (.mov (.t 0)),
 O 47 (.mov (.t 9)),
 O 48 (.call 0 72 [(.t 46), (.t 47)]),
 O 49 (.bin .add (.t 45) (.t 48)),
 O 8 (.mov (.t 49))] [49, 48, 47, 46, 45])) (
 .reg [
 O 43 (.mov (.t 9)),
 O 44 (.bin .add (.t 43) (.c (I 1))),
 O 9 (.mov (.t 44))] [44, 43]))
def F933 : PF := ⟨3, [.t 6, .t 7],
 sq (.reg [
 O 6 (.mov (.c (I 0))),
 O 7 (.mov (.c (I 0)))] [7, 6]) (
 sq (sq (.reg [
 O 10 (.mov (.t 0)),
 O 11 (.bin .lss (.t 10) (.c (I 2000))),
 O 12 (.mov (.t 11)),
 OG 13 12 false (.mov (.t 0)),
 OG 14 12 false (.bin .gtr (.t 13) (.c (I 2199))),
 O 15 (.pick (.t 12) (.c (.b true)) (.t 14)),
 O 16 (.mov (.t 15)),
 OG 17 16 false (.mov (.t 1)),
 OG 18 16 false (.bin .lss (.t 17) (.c (I 1))),
 O 19 (.pick (.t 16) (.c (.b true)) (.t 18)),
 O 20 (.mov (.t 19)),
 OG 21 20 false (.mov (.t 1)),
 OG 22 20 false (.bin .gtr (.t 21) (.c (I 12))),
 O 23 (.pick (.t 20) (.c (.b true)) (.t 22)),
 O 24 (.mov (.t 23)),
 OG 25 24 false (.mov (.t 2)),
 OG 26 24 false (.bin .lss (.t 25) (.c (I 1))),
 O 27 (.pick (.t 24) (.c (.b true)) (.t 26)),
 O 28 (.mov (.t 27)),
 OG 29 28 false (.mov (.t 2)),
 OG 30 28 false (.mov (.t 0)),
 OG 31 28 false (.mov (.t 1)),
 OG 32 28 false (.call 0 72 [(.t 30), (.t 31)]),
 OG 33 28 false (.bin .gtr (.t 29) (.t 32)),
 O 34 (.pick (.t 28) (.c (.b true)) (.t 33))] [33, 32, 31, 30, 29, 28, 27, 26, 25, 24, 23, 22, 21, 20, 19, 18, 17, 16, 15, 14, 13, 12, 11, 10]) (
 .cond (.t 34) (sq (.reg [
 O 6 (.mov (.c (I 0))),
 O 7 (.mov (.c (I 1)))] []) (
 .ret))
 (.skip))) (
 sq (.reg [
 O 35 (.mov (.t 0)),
 O 36 (.call 0 71 [(.t 35)]),
 O 37 (.mov (.t 2)),
 O 38 (.bin .add (.t 36) (.t 37)),
 O 39 (.bin .sub (.t 38) (.c (I 1))),
 O 8 (.mov (.t 39))] [39, 38, 2, 37, 36, 35]) (
 sq (sq (.reg [
 O 9 (.mov (.c (I 1)))] []) (
 .block 0 (
 .loop [0, 1, 8, 9] L933_0))) (
 sq (.reg [
 O 50 (.mov (.t 8)),
 O 6 (.mov (.t 50)),
 O 7 (.mov (.c (I 0)))] [8, 50]) (
 .ret)))))⟩
def F934 : PF := ⟨2, [.t 3],
 sq (.reg [
 O 2 (.box (K1 3) (.t 0)),
 O 3 (.mov (.c (.b false)))] [3, 0]) (
 sq (.reg [
 O 4 (.faddr 0 (.t 2)),
 O 5 (.load K0 (.t 4)),
 O 6 (.load K0 (.t 1)),
 O 7 (.bin .eql (.t 5) (.t 6)),
 O 3 (.mov (.t 7))] [7, 1, 6, 5, 2, 4]) (
 .ret))⟩
def L945_0 : PC :=
 sq (.reg [
 O 27 (.bin .lss (.t 26) (.t 25))] []) (
 sq (.cond (.t 27) (.skip)
 (.exit 2)) (
 sq (.block 3 (
 sq (.reg [
 O 28 (.iaddr (K1 2) (.t 24) (.t 26)),
 O 29 (.load (K1 2) (.t 28)),
 O 6 (.alloc (K1 2) (.a [(.s []), (I 0)])),
 E (.store (K1 2) (.t 6) (.t 29))] [29, 28]) (
 sq (.reg [
 O 30 (.faddr 0 (.t 6)),
 O 31 (.load K0 (.t 30)),
 O 32 (.faddr 0 (.t 4)),
 O 33 (.load K0 (.t 32)),
 O 34 (.bin .eql (.t 31) (.t 33))] [33, 32, 31, 6, 30]) (
 .cond (.t 34) (sq (.reg [
 O 2 (.mov (.c (I 12)))] []) (
 .ret))
 (.skip))))) (
 .reg [
 O 35 (.bin .add (.t 26) (.c (I 1))),
 O 26 (.mov (.t 35))] [35])))
def L945_1 : PC :=
 sq (.reg [
 O 13 (.bin .lss (.t 12) (.t 11))] []) (
 sq (.cond (.t 13) (.skip)
 (.exit 0)) (
 sq (.block 1 (
 sq (.reg [
 O 14 (.mov (.t 12)),
 O 15 (.iaddr (K1 2) (.t 10) (.t 12)),
 O 16 (.load (K1 2) (.t 15)),
 O 4 (.alloc (K1 2) (.a [(.s []), (I 0)])),
 O 3 (.mov (.t 14)),
 E (.store (K1 2) (.t 4) (.t 16))] [16, 15, 14]) (
 sq (sq (.reg [
 O 17 (.faddr 0 (.t 4)),
 O 18 (.load K0 (.t 17)),
 O 19 (.agg [(I 0), (I 0), (.s []), (.l (K1 4) [] true)] [(0, K0, (.c (I 4))), (2, K0, (.t 18))]),
 O 20 (.call 0 399 [(.t 19)]),
 O 21 (.bin .neq (.t 20) (.c (I 0)))] [20, 19, 18, 17]) (
 .cond (.t 21) (sq (.reg [
 O 2 (.mov (.c (I 4)))] []) (
 .ret))
 (.skip))) (
 sq (sq (.reg [
 O 22 (.mov (.t 0)),
 O 23 (.mov (.t 3)),
 O 24 (.sl (K1 2) (.t 22) none (some (.t 23)) none),
 O 25 (.len false (.t 24)),
 O 26 (.mov (.c (I 0)))] [3, 23, 22]) (
 .block 2 (
 .loop [0, 4, 10, 11, 12, 24, 25, 26] L945_0))) (
 sq (.reg [
 O 36 (.faddr 1 (.t 4)),
 O 37 (.load K0 (.t 36)),
 O 38 (.call 0 416 [(.t 37)]),
 O 39 (.un .not (.t 38))] [38, 37, 4, 36]) (
 .cond (.t 39) (sq (.reg [
 O 2 (.mov (.c (I 3)))] []) (
 .ret))
 (.skip))))))) (
 .reg [
 O 40 (.bin .add (.t 12) (.c (I 1))),
 O 12 (.mov (.t 40))] [40])))
def F945 : PF := ⟨1, [.t 2],
 sq (.reg [
 O 2 (.mov (.c (I 0)))] [2]) (
 sq (sq (.reg [
 O 7 (.mov (.t 0)),
 O 8 (.len false (.t 7)),
 O 9 (.bin .gtr (.t 8) (.c (I 64)))] [8, 7]) (
 .cond (.t 9) (sq (.reg [
 O 2 (.mov (.c (I 5)))] []) (
 .ret))
 (.skip))) (
 sq (sq (.reg [
 O 10 (.mov (.t 0)),
 O 11 (.len false (.t 10)),
 O 12 (.mov (.c (I 0)))] []) (
 .block 0 (
 .loop [0, 10, 11, 12] L945_1))) (
 sq (.reg [
 O 2 (.mov (.c (I 0)))] []) (
 .ret))))⟩
def L946_0 : PC :=
 sq (.reg [
 O 15 (.bin .lss (.t 14) (.t 13))] []) (
 sq (.cond (.t 15) (.skip)
 (.exit 0)) (
 sq (.block 1 (
 sq (.reg [
 O 16 (.mov (.t 14)),
 O 17 (.iaddr (K1 2) (.t 12) (.t 14)),
 O 18 (.load (K1 2) (.t 17)),
 O 6 (.alloc (K1 2) (.a [(I 0), (I 0)])),
 O 5 (.mov (.t 16)),
 E (.store (K1 2) (.t 6) (.t 18))] [18, 17, 16]) (
 sq (.regD [
 O 19 (.faddr 0 (.t 6)),
 O 20 (.load K0 (.t 19)),
 O 21 (.mov (.t 0)),
 O 22 (.mov (.t 5)),
 O 23 (.iaddr (K1 2) (.t 21) (.t 22)),
 O 24 (.faddr 1 (.t 23)),
 O 25 (.load K0 (.t 24)),
 O 26 (.bin .neq (.t 20) (.t 25)),
 O 27 (.mov (.t 26)),
 OG 28 27 false (.load (K1 2) (.t 6)),
 OG 29 27 false (.call 0 966 [(.t 28)]),
 OG 30 27 false (.un .not (.t 29)),
 O 31 (.pick (.t 27) (.c (.b true)) (.t 30))] [0, 1, 0, 0, 12, 28, 60, 127, 255, 511, 1023, 2047, 4095] [30, 29, 28, 27, 26, 25, 24, 23, 5, 22, 21, 20, 6, 19]) (
 .cond (.t 31) (sq (.reg [
 O 4 (.mov (.c (.b false)))] []) (
 .ret))
 (.skip))))) (
 .reg [
 O 32 (.bin .add (.t 14) (.c (I 1))),
 O 14 (.mov (.t 32))] [32])))
def F946 : PF := ⟨2, [.t 4],
 sq (.reg [
 O 4 (.mov (.c (.b false)))] [4]) (
 sq (sq (.reg [
 O 7 (.mov (.t 0)),
 O 8 (.len false (.t 7)),
 O 9 (.mov (.t 1)),
 O 10 (.len false (.t 9)),
 O 11 (.bin .neq (.t 8) (.t 10))] [10, 9, 8, 7]) (
 .cond (.t 11) (sq (.reg [
 O 4 (.mov (.c (.b false)))] []) (
 .ret))
 (.skip))) (
 sq (sq (.reg [
 O 12 (.mov (.t 1)),
 O 13 (.len false (.t 12)),
 O 14 (.mov (.c (I 0)))] [1]) (
 .block 0 (
 .loop [0, 12, 13, 14] L946_0))) (
 sq (.reg [
 O 4 (.mov (.c (.b true)))] []) (
 .ret))))⟩
def L947_0 : PC :=
 sq (.reg [
 O 39 (.bin .lss (.t 38) (.t 37))] []) (
 sq (.cond (.t 39) (.skip)
 (.exit 1)) (
 sq (.block 2 (
 sq (.reg [
 O 40 (.mov (.t 38)),
 O 41 (.iaddr (K1 2) (.t 36) (.t 38)),
 O 42 (.load (K1 2) (.t 41)),
 O 9 (.alloc (K1 2) (.a [(.s []), (I 0)])),
 O 8 (.mov (.t 40)),
 E (.store (K1 2) (.t 9) (.t 42))] [42, 41, 40]) (
 sq (.reg [
 O 43 (.faddr 0 (.t 9)),
 O 44 (.load K0 (.t 43)),
 O 45 (.faddr 2 (.t 3)),
 O 46 (.load K0 (.t 45)),
 O 47 (.bin .eql (.t 44) (.t 46))] [46, 45, 44, 9, 43]) (
 .cond (.t 47) (sq (.reg [
 O 48 (.mov (.t 2)),
 O 49 (.mov (.t 8)),
 O 50 (.iaddr (K1 2) (.t 48) (.t 49)),
 O 51 (.load (K1 2) (.t 50)),
 E (.store (K1 2) (.t 6) (.t 51)),
 O 7 (.mov (.c (I 0)))] [51, 50, 8, 49, 2, 48]) (
 .ret))
 (.skip))))) (
 .reg [
 O 52 (.bin .add (.t 38) (.c (I 1))),
 O 38 (.mov (.t 52))] [52])))
def L947_1 : PC :=
 sq (.reg [
 O 85 (.bin .lss (.t 84) (.t 83))] []) (
 sq (.cond (.t 85) (.skip)
 (.exit 3)) (
 sq (.block 4 (
 sq (.reg [
 O 86 (.iaddr (K1 4) (.t 82) (.t 84)),
 O 87 (.load (K1 4) (.t 86)),
 O 14 (.alloc (K1 4) (.a [(I 0), (I 0), (.s []), (.l (K1 4) [] true)])),
 E (.store (K1 4) (.t 14) (.t 87))] [87, 86]) (
 sq (.reg [
 O 89 (.load (K1 4) (.t 14)),
 O 90 (.mov (.t 1)),
 O 91 (.mov (.t 2)),
 O 92 (.call 0 947 [(.t 89), (.t 90), (.t 91)]),
 O 88 (.mov (.t 92)),
 O 93 (.ext (.t 88) 0),
 O 94 (.ext (.t 88) 1),
 O 15 (.alloc (K1 2) (.a [(I 0), (I 0)])),
 E (.store (K1 2) (.t 15) (.t 93)),
 O 16 (.mov (.t 94))] [94, 93, 88, 92, 91, 90, 14, 89]) (
 sq (sq (.reg [
 O 95 (.mov (.t 16)),
 O 96 (.bin .neq (.t 95) (.c (I 0)))] [95]) (
 .cond (.t 96) (sq (.reg [
 O 97 (.agg [(I 0), (I 0)] []),
 O 98 (.mov (.t 16)),
 E (.store (K1 2) (.t 6) (.t 97)),
 O 7 (.mov (.t 98))] [16, 98, 97]) (
 .ret))
 (.skip))) (
 .reg [
 O 99 (.mov (.t 12)),
 O 100 (.load (K1 2) (.t 15)),
 O 101 (.bsl (K1 2) (.a [(I 0), (I 0)]) 1 [(0, (.t 100))]),
 O 102 (.app (K1 2) 16 (.t 99) (.t 101)),
 O 12 (.mov (.t 102))] [102, 101, 15, 100, 99]))))) (
 .reg [
 O 103 (.bin .add (.t 84) (.c (I 1))),
 O 84 (.mov (.t 103))] [103])))
def F947 : PF := ⟨3, [.c 6 (K1 2), .t 7],
 sq (.reg [
 O 3 (.box (K1 4) (.t 0)),
 O 6 (.alloc (K1 2) (.a [(I 0), (I 0)])),
 O 7 (.mov (.c (I 0)))] [7, 0]) (
 sq (sq (.reg [
 O 17 (.faddr 0 (.t 3)),
 O 18 (.load K0 (.t 17))] [17]) (
 .block 0 (
 sq (.reg [
 O 20 (.bin .eql (.t 18) (.c (I 1))),
 O 19 (.mov (.t 20))] [20]) (
 .cond (.t 19) (sq (.reg [
 O 21 (.faddr 1 (.t 3)),
 O 22 (.load K0 (.t 21)),
 O 23 (.agg [(I 0), (I 0)] [(0, K0, (.c (I 1))), (1, K0, (.t 22))]),
 E (.store (K1 2) (.t 6) (.t 23)),
 O 7 (.mov (.c (I 0)))] [23, 22, 3, 21]) (
 .ret))
 (sq (.reg [
 O 25 (.bin .eql (.t 18) (.c (I 2))),
 O 24 (.mov (.t 25))] [25]) (
 .cond (.t 24) (sq (.reg [
 O 26 (.faddr 1 (.t 3)),
 O 27 (.load K0 (.t 26)),
 O 28 (.agg [(I 0), (I 0)] [(0, K0, (.c (I 2))), (1, K0, (.t 27))]),
 E (.store (K1 2) (.t 6) (.t 28)),
 O 7 (.mov (.c (I 0)))] [28, 27, 3, 26]) (
 .ret))
 (sq (.reg [
 O 30 (.bin .eql (.t 18) (.c (I 3))),
 O 29 (.mov (.t 30))] [30]) (
 .cond (.t 29) (sq (.reg [
 O 31 (.faddr 1 (.t 3)),
 O 32 (.load K0 (.t 31)),
 O 33 (.agg [(I 0), (I 0)] [(0, K0, (.c (I 3))), (1, K0, (.t 32))]),
 E (.store (K1 2) (.t 6) (.t 33)),
 O 7 (.mov (.c (I 0)))] [33, 32, 3, 31]) (
 .ret))
 (sq (.reg [
 O 35 (.bin .eql (.t 18) (.c (I 4))),
 O 34 (.mov (.t 35))] [35]) (
 .cond (.t 34) (sq (.reg [
 O 36 (.mov (.t 1)),
 O 37 (.len false (.t 36)),
 O 38 (.mov (.c (I 0)))] []) (
 .block 1 (
 .loop [1, 2, 3, 6, 36, 37, 38] L947_0)))
 (sq (.reg [
 O 54 (.bin .eql (.t 18) (.c (I 19))),
 O 53 (.mov (.t 54))] [18, 54]) (
 .cond (.t 53) (sq (.reg [
 O 56 (.faddr 3 (.t 3)),
 O 57 (.load K0 (.t 56)),
 O 58 (.iaddr (K1 4) (.t 57) (.c (I 0))),
 O 59 (.load (K1 4) (.t 58)),
 O 60 (.mov (.t 1)),
 O 61 (.mov (.t 2)),
 O 62 (.call 0 947 [(.t 59), (.t 60), (.t 61)]),
 O 55 (.mov (.t 62)),
 O 63 (.ext (.t 55) 0),
 O 64 (.ext (.t 55) 1),
 O 10 (.alloc (K1 2) (.a [(I 0), (I 0)])),
 E (.store (K1 2) (.t 10) (.t 63)),
 O 11 (.mov (.t 64))] [64, 63, 55, 62, 61, 60, 59, 58, 57, 56]) (
 sq (sq (.reg [
 O 65 (.mov (.t 11)),
 O 66 (.bin .neq (.t 65) (.c (I 0)))] [65]) (
 .cond (.t 66) (sq (.reg [
 O 67 (.agg [(I 0), (I 0)] []),
 O 68 (.mov (.t 11)),
 E (.store (K1 2) (.t 6) (.t 67)),
 O 7 (.mov (.t 68))] [11, 68, 67]) (
 .ret))
 (.skip))) (
 sq (.reg [
 O 69 (.faddr 3 (.t 3)),
 O 70 (.load K0 (.t 69)),
 O 71 (.faddr 1 (.t 10)),
 O 72 (.load K0 (.t 71)),
 O 73 (.bin .sub (.c (I 2)) (.t 72)),
 O 74 (.iaddr (K1 4) (.t 70) (.t 73)),
 O 75 (.load (K1 4) (.t 74)),
 O 76 (.mov (.t 1)),
 O 77 (.mov (.t 2)),
 O 78 (.call 0 947 [(.t 75), (.t 76), (.t 77)]),
 O 79 (.ext (.t 78) 0),
 O 80 (.ext (.t 78) 1),
 E (.store (K1 2) (.t 6) (.t 79)),
 O 7 (.mov (.t 80))] [80, 79, 78, 2, 77, 1, 76, 75, 74, 73, 72, 10, 71, 70, 3, 69]) (
 .ret))))
 (.skip))))))))))))) (
 sq (.reg [
 O 12 (.mov (.c (.l (K1 2) [] true)))] []) (
 sq (sq (.reg [
 O 81 (.faddr 3 (.t 3)),
 O 82 (.load K0 (.t 81)),
 O 83 (.len false (.t 82)),
 O 84 (.mov (.c (I 0)))] [81]) (
 .block 3 (
 .loop [1, 2, 3, 6, 12, 82, 83, 84] L947_1))) (
 sq (.reg [
 O 104 (.faddr 0 (.t 3)),
 O 105 (.load K0 (.t 104)),
 O 106 (.mov (.t 12)),
 O 107 (.call 0 967 [(.t 105), (.t 106)]),
 O 108 (.ext (.t 107) 0),
 O 109 (.ext (.t 107) 1),
 E (.store (K1 2) (.t 6) (.t 108)),
 O 7 (.mov (.t 109))] [109, 108, 107, 12, 106, 105, 3, 104]) (
 .ret)))))⟩
def F949 : PF := ⟨1, [.t 2],
 sq (.reg [
 O 1 (.box (K1 10) (.t 0)),
 O 2 (.mov (.c (.b false)))] [2, 0]) (
 sq (sq (.reg [
 O 3 (.faddr 3 (.t 1)),
 O 4 (.load K0 (.t 3))] [3]) (
 .block 0 (
 sq (sq (.reg [
 O 6 (.bin .eql (.t 4) (.c (I 2))),
 O 5 (.mov (.t 6))] [6]) (
 .cond (.t 5) (.skip)
 (sq (.reg [
 O 7 (.bin .eql (.t 4) (.c (I 3))),
 O 5 (.mov (.t 7))] [7]) (
 .cond (.t 5) (.skip)
 (sq (.reg [
 O 8 (.bin .eql (.t 4) (.c (I 9))),
 O 5 (.mov (.t 8))] [8]) (
 .cond (.t 5) (.skip)
 (.reg [
 O 9 (.bin .eql (.t 4) (.c (I 14))),
 O 5 (.mov (.t 9))] [4, 9]))))))) (
 .cond (.t 5) (sq (.reg [
 O 10 (.faddr 4 (.t 1)),
 O 11 (.load K0 (.t 10)),
 O 12 (.bin .eql (.t 11) (.c (I 0))),
 O 2 (.mov (.t 12))] [12, 11, 1, 10]) (
 .ret))
 (.skip))))) (
 sq (.reg [
 O 2 (.mov (.c (.b false)))] []) (
 .ret)))⟩
def F966 : PF := ⟨1, [.t 2],
 sq (.reg [
 O 1 (.box (K1 2) (.t 0)),
 O 2 (.mov (.c (.b false)))] [2, 0]) (
 sq (sq (.reg [
 O 3 (.faddr 0 (.t 1)),
 O 4 (.load K0 (.t 3))] [3]) (
 .block 0 (
 sq (.reg [
 O 6 (.bin .eql (.t 4) (.c (I 1))),
 O 5 (.mov (.t 6))] [6]) (
 .cond (.t 5) (sq (.reg [
 O 2 (.mov (.c (.b true)))] []) (
 .ret))
 (sq (.reg [
 O 8 (.bin .eql (.t 4) (.c (I 2))),
 O 7 (.mov (.t 8))] [8]) (
 .cond (.t 7) (sq (.reg [
 O 9 (.faddr 1 (.t 1)),
 O 10 (.load K0 (.t 9)),
 O 11 (.bin .geq (.t 10) (.c (I (-1000000000000)))),
 O 12 (.mov (.t 11)),
 OG 13 12 true (.faddr 1 (.t 1)),
 OG 14 12 true (.load K0 (.t 13)),
 OG 15 12 true (.bin .leq (.t 14) (.c (I 1000000000000))),
 O 16 (.pick (.t 12) (.t 15) (.c (.b false))),
 O 2 (.mov (.t 16))] [16, 15, 14, 13, 12, 11, 10, 1, 9]) (
 .ret))
 (sq (.reg [
 O 18 (.bin .eql (.t 4) (.c (I 3))),
 O 17 (.mov (.t 18))] [18]) (
 .cond (.t 17) (sq (.reg [
 O 19 (.faddr 1 (.t 1)),
 O 20 (.load K0 (.t 19)),
 O 21 (.bin .geq (.t 20) (.c (I (-1000000000)))),
 O 22 (.mov (.t 21)),
 OG 23 22 true (.faddr 1 (.t 1)),
 OG 24 22 true (.load K0 (.t 23)),
 OG 25 22 true (.bin .leq (.t 24) (.c (I 1000000000))),
 O 26 (.pick (.t 22) (.t 25) (.c (.b false))),
 O 2 (.mov (.t 26))] [26, 25, 24, 23, 22, 21, 20, 1, 19]) (
 .ret))
 (sq (.reg [
 O 28 (.bin .eql (.t 4) (.c (I 4))),
 O 27 (.mov (.t 28))] [28]) (
 .cond (.t 27) (sq (.reg [
 O 29 (.faddr 1 (.t 1)),
 O 30 (.load K0 (.t 29)),
 O 31 (.bin .geq (.t 30) (.c (I 0))),
 O 32 (.mov (.t 31)),
 OG 33 32 true (.faddr 1 (.t 1)),
 OG 34 32 true (.load K0 (.t 33)),
 OG 35 32 true (.bin .leq (.t 34) (.c (I 73048))),
 O 36 (.pick (.t 32) (.t 35) (.c (.b false))),
 O 2 (.mov (.t 36))] [36, 35, 34, 33, 32, 31, 30, 1, 29]) (
 .ret))
 (sq (.reg [
 O 38 (.bin .eql (.t 4) (.c (I 5))),
 O 37 (.mov (.t 38))] [4, 38]) (
 .cond (.t 37) (sq (.reg [
 O 39 (.faddr 1 (.t 1)),
 O 40 (.load K0 (.t 39)),
 O 41 (.bin .eql (.t 40) (.c (I 0))),
 O 42 (.mov (.t 41)),
 OG 43 42 false (.faddr 1 (.t 1)),
 OG 44 42 false (.load K0 (.t 43)),
 OG 45 42 false (.bin .eql (.t 44) (.c (I 1))),
 O 46 (.pick (.t 42) (.c (.b true)) (.t 45)),
 O 2 (.mov (.t 46))] [46, 45, 44, 43, 42, 41, 40, 1, 39]) (
 .ret))
 (.skip))))))))))))) (
 sq (.reg [
 O 2 (.mov (.c (.b false)))] []) (
 .ret)))⟩
def F1091 : PF := ⟨0, [.t 0],
 sq (.reg [
 O 0 (.mov (.c (.b false)))] [0]) (
 sq (.reg [
 O 11 (.call 0 1097 []),
 O 1 (.alloc (K1 22) (.a [(.l (K1 2) [] true), (.l (K1 3) [] true), (.l (K1 4) [] true), (I 0), (I 0), (I 0), (I 0), (I 0), (I 0), (I 0), (I 0), (I 0), (I 0), (I 0), (I 0), (I 0), (I 0), (.l (K1 19) [] true), (.l (K1 7) [] true), (.l (K1 10) [] true), (.l (K1 6) [] true), (.l (K1 7) [] true)])),
 E (.store (K1 22) (.t 1) (.t 11))] [11]) (
 sq (.reg [
 O 13 (.load (K1 22) (.t 1)),
 O 14 (.call 0 801 [(.t 13), (.c (I 1000)), (.c (I 10)), (.c (I 7))]),
 O 12 (.mov (.t 14)),
 O 15 (.ext (.t 12) 0),
 O 16 (.ext (.t 12) 1),
 O 2 (.mov (.t 15)),
 O 3 (.mov (.t 16))] [16, 15, 12, 14, 13]) (
 sq (.reg [
 O 18 (.load (K1 22) (.t 1)),
 O 19 (.call 0 719 [(.t 18), (.c (I 1000)), (.c (I 10))]),
 O 17 (.mov (.t 19)),
 O 20 (.ext (.t 17) 0),
 O 21 (.ext (.t 17) 1),
 O 4 (.mov (.t 20)),
 O 5 (.mov (.t 21))] [21, 20, 17, 19, 18]) (
 sq (.reg [
 O 23 (.load (K1 22) (.t 1)),
 O 24 (.call 0 634 [(.t 23), (.c (I 1000)), (.c (I 10))]),
 O 22 (.mov (.t 24)),
 O 25 (.ext (.t 22) 0),
 O 26 (.ext (.t 22) 1),
 O 6 (.mov (.t 25)),
 O 7 (.mov (.t 26))] [26, 25, 22, 24, 23]) (
 sq (.reg [
 O 28 (.load (K1 22) (.t 1)),
 O 29 (.call 0 634 [(.t 28), (.c (I 1000)), (.c (I 11))]),
 O 27 (.mov (.t 29)),
 O 30 (.ext (.t 27) 0),
 O 31 (.ext (.t 27) 1),
 O 8 (.mov (.t 30)),
 O 9 (.mov (.t 31))] [31, 30, 27, 29, 28]) (
 sq (sq (.reg [
 O 32 (.mov (.t 3)),
 O 33 (.bin .neq (.t 32) (.c (I 0))),
 O 34 (.mov (.t 33)),
 OG 35 34 false (.mov (.t 2)),
 OG 36 34 false (.len false (.t 35)),
 OG 37 34 false (.bin .neq (.t 36) (.c (I 7))),
 O 38 (.pick (.t 34) (.c (.b true)) (.t 37)),
 O 39 (.mov (.t 38)),
 OG 40 39 false (.mov (.t 2)),
 OG 41 39 false (.iaddr (K1 2) (.t 40) (.c (I 0))),
 OG 42 39 false (.faddr 1 (.t 41)),
 OG 43 39 false (.load K0 (.t 42)),
 OG 44 39 false (.bin .neq (.t 43) (.c (I 300))),
 O 45 (.pick (.t 39) (.c (.b true)) (.t 44)),
 O 46 (.mov (.t 45)),
 OG 47 46 false (.mov (.t 2)),
 OG 48 46 false (.iaddr (K1 2) (.t 47) (.c (I 1))),
 OG 49 46 false (.faddr 1 (.t 48)),
 OG 50 46 false (.load K0 (.t 49)),
 OG 51 46 false (.bin .neq (.t 50) (.c (I 0))),
 O 52 (.pick (.t 46) (.c (.b true)) (.t 51)),
 O 53 (.mov (.t 52)),
 OG 54 53 false (.mov (.t 2)),
 OG 55 53 false (.iaddr (K1 2) (.t 54) (.c (I 2))),
 OG 56 53 false (.faddr 1 (.t 55)),
 OG 57 53 false (.load K0 (.t 56)),
 OG 58 53 false (.bin .neq (.t 57) (.c (I 0))),
 O 59 (.pick (.t 53) (.c (.b true)) (.t 58)),
 O 60 (.mov (.t 59)),
 OG 61 60 false (.mov (.t 2)),
 OG 62 60 false (.iaddr (K1 2) (.t 61) (.c (I 3))),
 OG 63 60 false (.faddr 1 (.t 62)),
 OG 64 60 false (.load K0 (.t 63)),
 OG 65 60 false (.bin .neq (.t 64) (.c (I 7))),
 O 66 (.pick (.t 60) (.c (.b true)) (.t 65)),
 O 67 (.mov (.t 66)),
 OG 68 67 false (.mov (.t 2)),
 OG 69 67 false (.iaddr (K1 2) (.t 68) (.c (I 4))),
 OG 70 67 false (.faddr 1 (.t 69)),
 OG 71 67 false (.load K0 (.t 70)),
 OG 72 67 false (.bin .neq (.t 71) (.c (I 1))),
 O 73 (.pick (.t 67) (.c (.b true)) (.t 72)),
 O 74 (.mov (.t 73)),
 OG 75 74 false (.mov (.t 2)),
 OG 76 74 false (.iaddr (K1 2) (.t 75) (.c (I 5))),
 OG 77 74 false (.faddr 1 (.t 76)),
 OG 78 74 false (.load K0 (.t 77)),
 OG 79 74 false (.bin .neq (.t 78) (.c (I 5))),
 O 80 (.pick (.t 74) (.c (.b true)) (.t 79)),
 O 81 (.mov (.t 80)),
 OG 82 81 false (.mov (.t 2)),
 OG 83 81 false (.iaddr (K1 2) (.t 82) (.c (I 6))),
 OG 84 81 false (.faddr 1 (.t 83)),
 OG 85 81 false (.load K0 (.t 84)),
 OG 86 81 false (.bin .neq (.t 85) (.c (I 10))),
 O 87 (.pick (.t 81) (.c (.b true)) (.t 86)),
 O 88 (.mov (.t 87)),
 OG 89 88 false (.mov (.t 2)),
 OG 90 88 false (.iaddr (K1 2) (.t 89) (.c (I 6))),
 OG 91 88 false (.faddr 0 (.t 90)),
 OG 92 88 false (.load K0 (.t 91)),
 OG 93 88 false (.bin .neq (.t 92) (.c (I 4))),
 O 94 (.pick (.t 88) (.c (.b true)) (.t 93))] [93, 92, 91, 90, 89, 88, 87, 86, 85, 84, 83, 82, 81, 80, 79, 78, 77, 76, 75, 74, 73, 72, 71, 70, 69, 68, 67, 66, 65, 64, 63, 62, 61, 60, 59, 58, 57, 56, 55, 54, 53, 52, 51, 50, 49, 48, 47, 46, 45, 44, 43, 42, 41, 40, 39, 38, 37, 36, 2, 35, 34, 33, 3, 32]) (
 .cond (.t 94) (sq (.reg [
 O 0 (.mov (.c (.b false)))] []) (
 .ret))
 (.skip))) (
 sq (.reg [
 O 95 (.call 0 1097 []),
 O 10 (.alloc (K1 22) (.a [(.l (K1 2) [] true), (.l (K1 3) [] true), (.l (K1 4) [] true), (I 0), (I 0), (I 0), (I 0), (I 0), (I 0), (I 0), (I 0), (I 0), (I 0), (I 0), (I 0), (I 0), (I 0), (.l (K1 19) [] true), (.l (K1 7) [] true), (.l (K1 10) [] true), (.l (K1 6) [] true), (.l (K1 7) [] true)])),
 E (.store (K1 22) (.t 10) (.t 95))] [95]) (
 sq (.reg [
 O 96 (.agg [(I 0), (I 0), (I 0), (I 0), (I 0), (I 0), (.s [])] [(0, K0, (.c (I 1))), (1, K0, (.c (I 1000))), (2, K0, (.c (I 2))), (4, K0, (.c (I 0))), (5, K0, (.c (I 10))), (6, K0, (.c (.s [99, 111, 117, 114, 116])))]),
 O 97 (.bsl (K1 7) (.a [(I 0), (I 0), (I 0), (I 0), (I 0), (I 0), (.s [])]) 1 [(0, (.t 96))]),
 O 98 (.faddr 21 (.t 10)),
 E (.store K0 (.t 98) (.t 97))] [98, 97, 96]) (
 sq (.regD [
 O 99 (.mov (.t 4)),
 O 100 (.bin .eql (.t 99) (.c (I (-500)))),
 O 101 (.mov (.t 100)),
 OG 102 101 true (.mov (.t 5)),
 OG 103 101 true (.bin .eql (.t 102) (.c (I 0))),
 O 104 (.pick (.t 101) (.t 103) (.c (.b false))),
 O 105 (.mov (.t 104)),
 OG 106 105 true (.mov (.t 6)),
 OG 107 105 true (.bin .eql (.t 106) (.c (I 700))),
 O 108 (.pick (.t 105) (.t 107) (.c (.b false))),
 O 109 (.mov (.t 108)),
 OG 110 109 true (.mov (.t 7)),
 OG 111 109 true (.bin .eql (.t 110) (.c (I 0))),
 O 112 (.pick (.t 109) (.t 111) (.c (.b false))),
 O 113 (.mov (.t 112)),
 OG 114 113 true (.mov (.t 8)),
 OG 115 113 true (.bin .eql (.t 114) (.c (I 800))),
 O 116 (.pick (.t 113) (.t 115) (.c (.b false))),
 O 117 (.mov (.t 116)),
 OG 118 117 true (.mov (.t 9)),
 OG 119 117 true (.bin .eql (.t 118) (.c (I 0))),
 O 120 (.pick (.t 117) (.t 119) (.c (.b false))),
 O 121 (.mov (.t 120)),
 OG 122 121 true (.load (K1 22) (.t 1)),
 OG 123 121 true (.call 0 1098 [(.c (I 600))]),
 OG 124 121 true (.call 0 674 [(.t 122), (.t 123)]),
 OG 125 121 true (.bin .eql (.t 124) (.c (I 0))),
 O 126 (.pick (.t 121) (.t 125) (.c (.b false))),
 O 127 (.mov (.t 126)),
 OG 128 127 true (.load (K1 22) (.t 1)),
 OG 129 127 true (.call 0 1098 [(.c (I 601))]),
 OG 130 127 true (.call 0 674 [(.t 128), (.t 129)]),
 OG 131 127 true (.bin .eql (.t 130) (.c (I 20))),
 O 132 (.pick (.t 127) (.t 131) (.c (.b false))),
 O 133 (.mov (.t 132)),
 OG 134 133 true (.load (K1 22) (.t 1)),
 OG 135 133 true (.call 0 1098 [(.c (I 701))]),
 OG 136 133 true (.call 0 674 [(.t 134), (.t 135)]),
 OG 137 133 true (.bin .eql (.t 136) (.c (I 18))),
 O 138 (.pick (.t 133) (.t 137) (.c (.b false))),
 O 139 (.mov (.t 138)),
 OG 140 139 true (.load (K1 22) (.t 10)),
 OG 141 139 true (.call 0 1098 [(.c (I 1))]),
 OG 142 139 true (.call 0 674 [(.t 140), (.t 141)]),
 OG 143 139 true (.bin .eql (.t 142) (.c (I 19))),
 O 144 (.pick (.t 139) (.t 143) (.c (.b false))),
 O 145 (.mov (.t 144)),
 OG 146 145 true (.load (K1 22) (.t 10)),
 OG 147 145 true (.call 0 1098 [(.c (I (-1)))]),
 OG 148 145 true (.call 0 674 [(.t 146), (.t 147)]),
 OG 149 145 true (.bin .eql (.t 148) (.c (I 0))),
 O 150 (.pick (.t 145) (.t 149) (.c (.b false))),
 O 151 (.mov (.t 150)),
 OG 152 151 true (.load (K1 22) (.t 1)),
 OG 153 151 true (.call 0 918 [(.t 152), (.c (I 1000)), (.c (I 0)), (.c (I 10))]),
 OG 154 151 true (.bin .eql (.t 153) (.c (I 0))),
 O 155 (.pick (.t 151) (.t 154) (.c (.b false))),
 O 0 (.mov (.t 155))] [0, 1, 3, 7, 15, 31, 63, 127, 255, 511, 1023, 2047, 4095, 8191, 16383, 32767, 65535, 131071, 262143, 524287, 1048575, 2097151, 4194303, 8388607, 8388607, 33554431, 67108863, 134217727, 268435455, 536870911, 536870911, 2147483647, 4294967295, 8589934591, 17179869183, 34359738367, 34359738367, 137438953471, 274877906943, 549755813887, 1099511627775, 2199023255551, 2199023255551, 8796093022207, 17592186044415, 35184372088831, 70368744177663, 140737488355327, 140737488355327, 562949953421311, 1125899906842623, 2251799813685247, 4503599627370495, 9007199254740991, 18014398509481983, 36028797018963967, 72057594037927935, 144115188075855871] [155, 154, 153, 152, 151, 150, 149, 148, 147, 146, 145, 144, 143, 142, 141, 10, 140, 139, 138, 137, 136, 135, 134, 133, 132, 131, 130, 129, 128, 127, 126, 125, 124, 123, 1, 122, 121, 120, 119, 9, 118, 117, 116, 115, 8, 114, 113, 112, 111, 7, 110, 109, 108, 107, 6, 106, 105, 104, 103, 5, 102, 101, 100, 4, 99]) (
 .ret))))))))))⟩
def F1097 : PF := ⟨0, [.c 0 (K1 22)],
 sq (.reg [
 O 0 (.alloc (K1 22) (.a [(.l (K1 2) [] true), (.l (K1 3) [] true), (.l (K1 4) [] true), (I 0), (I 0), (I 0), (I 0), (I 0), (I 0), (I 0), (I 0), (I 0), (I 0), (I 0), (I 0), (I 0), (I 0), (.l (K1 19) [] true), (.l (K1 7) [] true), (.l (K1 10) [] true), (.l (K1 6) [] true), (.l (K1 7) [] true)]))] []) (
 sq (.reg [
 O 3 (.agg [(I 0), (I 0), (.s []), (.l (K1 4) [] true)] [(0, K0, (.c (I 2))), (1, K0, (.c (I 600)))]),
 O 4 (.agg [(.s []), (I 0), (I 0), (I 0), (.s []), (.l (K1 4) [] true)] [(0, K0, (.c (.s [111, 110, 101]))), (1, K0, (.c (I 1))), (2, (K1 4), (.t 3))]),
 O 5 (.bsl (K1 6) (.a [(.s []), (I 0), (I 0), (I 0), (.s []), (.l (K1 4) [] true)]) 1 [(0, (.t 4))]),
 O 6 (.agg [(.s []), (.s []), (.s []), (I 0), (I 0), (I 0), (I 0), (.l (K1 2) [] true), (.b false), (I 0), (I 0), (.b false), (.l (K1 2) [] true), (.b false), (I 0), (I 0), (.b false), (.l (K1 10) [] true), (.l (K1 6) [] true)] [(0, K0, (.c (.s [98, 97, 115, 105, 99]))), (1, K0, (.c (.s [69, 85, 82]))), (2, K0, (.c (.s [119, 101, 101, 107]))), (4, K0, (.c (I 1))), (5, K0, (.c (I 500))), (18, K0, (.t 5))]),
 O 1 (.alloc (K1 19) (.a [(.s []), (.s []), (.s []), (I 0), (I 0), (I 0), (I 0), (.l (K1 2) [] true), (.b false), (I 0), (I 0), (.b false), (.l (K1 2) [] true), (.b false), (I 0), (I 0), (.b false), (.l (K1 10) [] true), (.l (K1 6) [] true)])),
 E (.store (K1 19) (.t 1) (.t 6))] [6, 5, 4, 3]) (
 sq (.reg [
 O 7 (.call 0 1098 [(.c (I (-300)))]),
 O 2 (.alloc (K1 10) (.a [(I 0), (I 0), (I 0), (I 0), (I 0), (I 0), (.s []), (.s []), (.l (K1 3) [] true), (.i .u64 0)])),
 E (.store (K1 10) (.t 2) (.t 7))] [7]) (
 sq (.reg [
 O 8 (.faddr 1 (.t 2)),
 E (.store K0 (.t 8) (.c (I 6))),
 O 9 (.faddr 2 (.t 2)),
 E (.store K0 (.t 9) (.c (I 6))),
 O 10 (.faddr 3 (.t 2)),
 E (.store K0 (.t 10) (.c (I 1))),
 O 11 (.faddr 6 (.t 2)),
 E (.store K0 (.t 11) (.c (.s [100])))] [11, 10, 9, 8]) (
 sq (.reg [
 O 12 (.load (K1 19) (.t 1)),
 O 13 (.bsl (K1 19) (.a [(.s []), (.s []), (.s []), (I 0), (I 0), (I 0), (I 0), (.l (K1 2) [] true), (.b false), (I 0), (I 0), (.b false), (.l (K1 2) [] true), (.b false), (I 0), (I 0), (.b false), (.l (K1 10) [] true), (.l (K1 6) [] true)]) 1 [(0, (.t 12))]),
 O 14 (.agg [(I 0), (I 0), (I 0), (I 0), (.s []), (.s []), (.s [])] [(0, K0, (.c (I 1000))), (1, K0, (.c (I 5))), (4, K0, (.c (.s [97, 110, 110]))), (5, K0, (.c (.s [98, 97, 115, 105, 99])))]),
 O 15 (.bsl (K1 7) (.a [(I 0), (I 0), (I 0), (I 0), (.s []), (.s []), (.s [])]) 1 [(0, (.t 14))]),
 O 16 (.load (K1 10) (.t 2)),
 O 17 (.bsl (K1 10) (.a [(I 0), (I 0), (I 0), (I 0), (I 0), (I 0), (.s []), (.s []), (.l (K1 3) [] true), (.i .u64 0)]) 1 [(0, (.t 16))]),
 O 18 (.agg [(I 0), (I 0), (I 0), (I 0), (I 0), (.s [])] [(0, K0, (.c (I 1))), (1, K0, (.c (I 1000))), (2, K0, (.c (I 100))), (3, K0, (.c (I 7))), (4, K0, (.c (I 10))), (5, K0, (.c (.s [104])))]),
 O 19 (.bsl (K1 6) (.a [(I 0), (I 0), (I 0), (I 0), (I 0), (.s [])]) 1 [(0, (.t 18))]),
 O 20 (.agg [(.l (K1 2) [] true), (.l (K1 3) [] true), (.l (K1 4) [] true), (I 0), (I 0), (I 0), (I 0), (I 0), (I 0), (I 0), (I 0), (I 0), (I 0), (I 0), (I 0), (I 0), (I 0), (.l (K1 19) [] true), (.l (K1 7) [] true), (.l (K1 10) [] true), (.l (K1 6) [] true), (.l (K1 7) [] true)] [(17, K0, (.t 13)), (18, K0, (.t 15)), (19, K0, (.t 17)), (20, K0, (.t 19))]),
 E (.store (K1 22) (.t 0) (.t 20))] [20, 19, 18, 17, 2, 16, 15, 14, 13, 1, 12]) (
 .ret)))))⟩
def F1098 : PF := ⟨1, [.c 2 (K1 10)],
 sq (.reg [
 O 2 (.alloc (K1 10) (.a [(I 0), (I 0), (I 0), (I 0), (I 0), (I 0), (.s []), (.s []), (.l (K1 3) [] true), (.i .u64 0)]))] []) (
 sq (.reg [
 O 3 (.mov (.t 0)),
 O 4 (.agg [(I 0), (I 0), (.s [])] [(0, K0, (.c (I 1000))), (1, K0, (.t 3)), (2, K0, (.c (.s [69, 85, 82])))]),
 O 5 (.mov (.t 0)),
 O 6 (.un .neg (.t 5)),
 O 7 (.agg [(I 0), (I 0), (.s [])] [(0, K0, (.c (I 1))), (1, K0, (.t 6)), (2, K0, (.c (.s [69, 85, 82])))]),
 O 8 (.bsl (K1 3) (.a [(I 0), (I 0), (.s [])]) 2 [(0, (.t 4)), (1, (.t 7))]),
 O 9 (.agg [(I 0), (I 0), (I 0), (I 0), (I 0), (I 0), (.s []), (.s []), (.l (K1 3) [] true), (.i .u64 0)] [(1, K0, (.c (I 10))), (2, K0, (.c (I 10))), (3, K0, (.c (I 2))), (6, K0, (.c (.s [119]))), (8, K0, (.t 8))]),
 E (.store (K1 10) (.t 2) (.t 9))] [9, 8, 7, 6, 5, 4, 0, 3]) (
 .ret))⟩
end Go.Sim

