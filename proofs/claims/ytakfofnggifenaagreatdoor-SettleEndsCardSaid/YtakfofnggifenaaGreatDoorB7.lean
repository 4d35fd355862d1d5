/- Part 7 of the proof: CbA25a. -/
import Derived.Test.YtakfofnggifenaaGreatDoorB2
import Derived.Test.YtakfofnggifenaaGreatDoorB6
namespace Go.Sim
def F12 : PF := ⟨2, [.c 4 (K1 7), .t 5],
 sq (.reg [
 O 2 (.box (K1 22) (.t 0)),
 O 4 (.alloc (K1 7) (.a [(I 0), (I 0), (I 0), (I 0), (.s []), (.s []), (.s [])])),
 O 5 (.mov (.c (.b false)))] [5, 0]) (
 sq (.reg [
 O 7 (.load (K1 22) (.t 2)),
 O 8 (.mov (.t 1)),
 O 9 (.call 0 16 [(.t 7), (.t 8)]),
 O 6 (.mov (.t 9))] [9, 1, 8, 7]) (
 sq (sq (.reg [
 O 10 (.mov (.t 6)),
 O 11 (.bin .lss (.t 10) (.c (I 0)))] [10]) (
 .cond (.t 11) (sq (.reg [
 O 12 (.agg [(I 0), (I 0), (I 0), (I 0), (.s []), (.s []), (.s [])] []),
 E (.store (K1 7) (.t 4) (.t 12)),
 O 5 (.mov (.c (.b false)))] [12]) (
 .ret))
 (.skip))) (
 sq (.reg [
 O 13 (.faddr 18 (.t 2)),
 O 14 (.load K0 (.t 13)),
 O 15 (.mov (.t 6)),
 O 16 (.iaddr (K1 7) (.t 14) (.t 15)),
 O 17 (.load (K1 7) (.t 16)),
 E (.store (K1 7) (.t 4) (.t 17)),
 O 5 (.mov (.c (.b true)))] [17, 16, 6, 15, 14, 2, 13]) (
 .ret))))⟩
def F16 : PF := ⟨2, [.t 4],
 sq (.reg [
 O 2 (.box (K1 22) (.t 0)),
 O 3 (.box K0 (.t 1)),
 O 4 (.mov (.c (I 0)))] [4, 1, 0]) (
 sq (.reg [
 O 5 (.faddr 18 (.t 2)),
 O 6 (.load K0 (.t 5)),
 O 7 (.mkf 19 [(.t 3)]),
 O 8 (.call 2 18 [(.t 6), (.t 7)]),
 O 4 (.mov (.t 8))] [8, 3, 7, 6, 2, 5]) (
 .ret))⟩
def F18 : PF := FidxG (K1 7)
def F19 : PF := ⟨2, [.t 3],
 sq (.reg [
 O 2 (.box (K1 7) (.t 0)),
 O 3 (.mov (.c (.b false)))] [3, 0]) (
 sq (.reg [
 O 4 (.faddr 0 (.t 2)),
 O 5 (.load K0 (.t 4)),
 O 6 (.load K0 (.t 1)),
 O 7 (.bin .eql (.t 5) (.t 6)),
 O 3 (.mov (.t 7))] [7, 1, 6, 5, 2, 4]) (
 .ret))⟩
def F22 : PF := ⟨1, [.t 2],
 sq (.reg [
 O 2 (.mov (.c (.b false)))] [2]) (
 sq (.reg [
 O 3 (.mov (.t 0)),
 O 4 (.bin .geq (.t 3) (.c (I 0))),
 O 5 (.mov (.t 4)),
 OG 6 5 true (.mov (.t 0)),
 OG 7 5 true (.bin .leq (.t 6) (.c (I 73048))),
 O 8 (.pick (.t 5) (.t 7) (.c (.b false))),
 O 2 (.mov (.t 8))] [8, 7, 6, 5, 4, 0, 3]) (
 .ret))⟩
def F24 : PF := ⟨3, [.c 6 (K1 19), .t 7],
 sq (.reg [
 O 3 (.box (K1 22) (.t 0)),
 O 6 (.alloc (K1 19) (.a [(.s []), (.s []), (.s []), (I 0), (I 0), (I 0), (I 0), (.l (K1 2) [] true), (.b false), (I 0), (I 0), (.b false), (.l (K1 2) [] true), (.b false), (I 0), (I 0), (.b false), (.l (K1 10) [] true), (.l (K1 6) [] true)])),
 O 7 (.mov (.c (.b false)))] [7, 0]) (
 sq (.reg [
 O 11 (.load (K1 22) (.t 3)),
 O 12 (.mov (.t 1)),
 O 13 (.call 0 12 [(.t 11), (.t 12)]),
 O 10 (.mov (.t 13)),
 O 14 (.ext (.t 10) 0),
 O 15 (.ext (.t 10) 1),
 O 8 (.alloc (K1 7) (.a [(I 0), (I 0), (I 0), (I 0), (.s []), (.s []), (.s [])])),
 E (.store (K1 7) (.t 8) (.t 14)),
 O 9 (.mov (.t 15))] [15, 14, 10, 13, 1, 12, 11]) (
 sq (sq (.reg [
 O 16 (.mov (.t 9)),
 O 17 (.un .not (.t 16))] [9, 16]) (
 .cond (.t 17) (sq (.reg [
 O 18 (.agg [(.s []), (.s []), (.s []), (I 0), (I 0), (I 0), (I 0), (.l (K1 2) [] true), (.b false), (I 0), (I 0), (.b false), (.l (K1 2) [] true), (.b false), (I 0), (I 0), (.b false), (.l (K1 10) [] true), (.l (K1 6) [] true)] []),
 E (.store (K1 19) (.t 6) (.t 18)),
 O 7 (.mov (.c (.b false)))] [18]) (
 .ret))
 (.skip))) (
 sq (.reg [
 O 19 (.faddr 17 (.t 3)),
 O 20 (.load K0 (.t 19)),
 O 21 (.faddr 5 (.t 8)),
 O 22 (.load K0 (.t 21)),
 O 23 (.mov (.t 2)),
 O 24 (.call 0 30 [(.t 20), (.t 22), (.t 23)]),
 O 25 (.ext (.t 24) 0),
 O 26 (.ext (.t 24) 1),
 E (.store (K1 19) (.t 6) (.t 25)),
 O 7 (.mov (.t 26))] [26, 25, 24, 2, 23, 22, 8, 21, 20, 3, 19]) (
 .ret))))⟩
def L30_0 : PC :=
 sq (.reg [
 O 14 (.bin .lss (.t 13) (.t 12))] []) (
 sq (.cond (.t 14) (.skip)
 (.exit 0)) (
 sq (.block 1 (
 sq (.reg [
 O 15 (.mov (.t 13)),
 O 16 (.iaddr (K1 19) (.t 11) (.t 13)),
 O 17 (.load (K1 19) (.t 16)),
 O 10 (.alloc (K1 19) (.a [(.s []), (.s []), (.s []), (I 0), (I 0), (I 0), (I 0), (.l (K1 2) [] true), (.b false), (I 0), (I 0), (.b false), (.l (K1 2) [] true), (.b false), (I 0), (I 0), (.b false), (.l (K1 10) [] true), (.l (K1 6) [] true)])),
 O 9 (.mov (.t 15)),
 E (.store (K1 19) (.t 10) (.t 17))] [17, 16, 15]) (
 sq (.regD [
 O 18 (.faddr 0 (.t 10)),
 O 19 (.load K0 (.t 18)),
 O 20 (.mov (.t 1)),
 O 21 (.bin .eql (.t 19) (.t 20)),
 O 22 (.mov (.t 21)),
 OG 23 22 true (.faddr 3 (.t 10)),
 OG 24 22 true (.load K0 (.t 23)),
 OG 25 22 true (.mov (.t 2)),
 OG 26 22 true (.bin .leq (.t 24) (.t 25)),
 O 27 (.pick (.t 22) (.t 26) (.c (.b false))),
 O 28 (.mov (.t 27)),
 OG 29 28 true (.mov (.t 8)),
 OG 30 28 true (.bin .lss (.t 29) (.c (I 0))),
 OG 31 28 true (.mov (.t 30)),
 OG 32 31 false (.faddr 3 (.t 10)),
 OG 33 31 false (.load K0 (.t 32)),
 OG 34 31 false (.mov (.t 0)),
 OG 35 31 false (.mov (.t 8)),
 OG 36 31 false (.iaddr (K1 19) (.t 34) (.t 35)),
 OG 37 31 false (.faddr 3 (.t 36)),
 OG 38 31 false (.load K0 (.t 37)),
 OG 39 31 false (.bin .gtr (.t 33) (.t 38)),
 OG 40 28 true (.pick (.t 31) (.c (.b true)) (.t 39)),
 O 41 (.pick (.t 28) (.t 40) (.c (.b false)))] [0, 1, 0, 7, 15, 31, 63, 31, 255, 511, 1023, 2047, 4095, 8191, 16383, 32767, 16383, 16383, 212991, 475135, 999423, 2097151, 4194303, 8388607] [40, 39, 38, 37, 36, 35, 34, 33, 32, 31, 30, 29, 28, 27, 26, 25, 24, 23, 22, 21, 20, 19, 10, 18]) (
 .cond (.t 41) (.reg [
 O 42 (.mov (.t 9)),
 O 8 (.mov (.t 42))] [9, 42])
 (.skip))))) (
 .reg [
 O 43 (.bin .add (.t 13) (.c (I 1))),
 O 13 (.mov (.t 43))] [43])))
def F30 : PF := ⟨3, [.c 6 (K1 19), .t 7],
 sq (.reg [
 O 6 (.alloc (K1 19) (.a [(.s []), (.s []), (.s []), (I 0), (I 0), (I 0), (I 0), (.l (K1 2) [] true), (.b false), (I 0), (I 0), (.b false), (.l (K1 2) [] true), (.b false), (I 0), (I 0), (.b false), (.l (K1 10) [] true), (.l (K1 6) [] true)])),
 O 7 (.mov (.c (.b false)))] [7]) (
 sq (.reg [
 O 8 (.mov (.c (I (-1))))] []) (
 sq (sq (.reg [
 O 11 (.mov (.t 0)),
 O 12 (.len false (.t 11)),
 O 13 (.mov (.c (I 0)))] []) (
 .block 0 (
 .loop [0, 1, 2, 6, 8, 11, 12, 13] L30_0))) (
 sq (sq (.reg [
 O 44 (.mov (.t 8)),
 O 45 (.bin .lss (.t 44) (.c (I 0)))] [44]) (
 .cond (.t 45) (sq (.reg [
 O 46 (.agg [(.s []), (.s []), (.s []), (I 0), (I 0), (I 0), (I 0), (.l (K1 2) [] true), (.b false), (I 0), (I 0), (.b false), (.l (K1 2) [] true), (.b false), (I 0), (I 0), (.b false), (.l (K1 10) [] true), (.l (K1 6) [] true)] []),
 E (.store (K1 19) (.t 6) (.t 46)),
 O 7 (.mov (.c (.b false)))] [46]) (
 .ret))
 (.skip))) (
 sq (.reg [
 O 47 (.mov (.t 0)),
 O 48 (.mov (.t 8)),
 O 49 (.iaddr (K1 19) (.t 47) (.t 48)),
 O 50 (.load (K1 19) (.t 49)),
 E (.store (K1 19) (.t 6) (.t 50)),
 O 7 (.mov (.c (.b true)))] [50, 49, 8, 48, 0, 47]) (
 .ret)))))⟩
def F39 : PF := ⟨3, [.t 6],
 sq (.reg [
 O 3 (.box (K1 22) (.t 0)),
 O 6 (.mov (.c (.b false)))] [6, 0]) (
 sq (.reg [
 O 10 (.load (K1 22) (.t 3)),
 O 11 (.mov (.t 1)),
 O 12 (.call 0 12 [(.t 10), (.t 11)]),
 O 9 (.mov (.t 12)),
 O 13 (.ext (.t 9) 0),
 O 14 (.ext (.t 9) 1),
 O 7 (.alloc (K1 7) (.a [(I 0), (I 0), (I 0), (I 0), (.s []), (.s []), (.s [])])),
 E (.store (K1 7) (.t 7) (.t 13)),
 O 8 (.mov (.t 14))] [14, 13, 9, 12, 1, 11, 3, 10]) (
 sq (.reg [
 O 15 (.mov (.t 8)),
 O 16 (.mov (.t 15)),
 OG 17 16 true (.faddr 1 (.t 7)),
 OG 18 16 true (.load K0 (.t 17)),
 OG 19 16 true (.mov (.t 2)),
 OG 20 16 true (.bin .leq (.t 18) (.t 19)),
 O 21 (.pick (.t 16) (.t 20) (.c (.b false))),
 O 22 (.mov (.t 21)),
 OG 23 22 true (.faddr 2 (.t 7)),
 OG 24 22 true (.load K0 (.t 23)),
 OG 25 22 true (.bin .eql (.t 24) (.c (I 0))),
 OG 26 22 true (.mov (.t 25)),
 OG 27 26 false (.faddr 2 (.t 7)),
 OG 28 26 false (.load K0 (.t 27)),
 OG 29 26 false (.mov (.t 2)),
 OG 30 26 false (.bin .gtr (.t 28) (.t 29)),
 OG 31 22 true (.pick (.t 26) (.c (.b true)) (.t 30)),
 O 32 (.pick (.t 22) (.t 31) (.c (.b false))),
 O 6 (.mov (.t 32))] [32, 31, 30, 29, 28, 27, 26, 25, 24, 23, 22, 21, 20, 2, 19, 18, 7, 17, 16, 8, 15]) (
 .ret)))⟩
def F50 : PF := ⟨2, [.t 4],
 sq (.reg [
 O 2 (.box K0 (.t 0)),
 O 3 (.box K0 (.t 1)),
 O 4 (.mov (.c .nf))] [4, 1, 0]) (
 sq (.reg [
 O 5 (.mkf 59 [(.t 2), (.t 3)]),
 O 4 (.mov (.t 5))] [3, 2, 5]) (
 .ret))⟩
def L59_0 : PC :=
 sq (.reg [
 O 18 (.bin .lss (.t 17) (.t 16))] []) (
 sq (.cond (.t 18) (.skip)
 (.exit 2)) (
 sq (.block 3 (
 sq (.reg [
 O 19 (.iaddr (K1 3) (.t 15) (.t 17)),
 O 20 (.load (K1 3) (.t 19)),
 O 7 (.alloc (K1 3) (.a [(I 0), (I 0), (.s [])])),
 E (.store (K1 3) (.t 7) (.t 20))] [20, 19]) (
 sq (.reg [
 O 21 (.faddr 0 (.t 7)),
 O 22 (.load K0 (.t 21)),
 O 23 (.load K0 (.t 2)),
 O 24 (.bin .eql (.t 22) (.t 23)),
 O 25 (.mov (.t 24)),
 OG 26 25 true (.mov (.t 0)),
 OG 27 25 true (.load (K1 10) (.t 5)),
 OG 28 25 true (.faddr 1 (.t 7)),
 OG 29 25 true (.load K0 (.t 28)),
 OG 30 25 true (.callv (.t 26) [(.t 27), (.t 29)]),
 OG 31 25 true (.un .not (.t 30)),
 O 32 (.pick (.t 25) (.t 31) (.c (.b false)))] [31, 30, 29, 28, 27, 26, 25, 24, 23, 22, 7, 21]) (
 .cond (.t 32) (.ret)
 (.skip))))) (
 .reg [
 O 33 (.bin .add (.t 17) (.c (I 1))),
 O 17 (.mov (.t 33))] [33])))
def L59_1 : PC :=
 sq (.reg [
 O 11 (.bin .lss (.t 10) (.t 9))] []) (
 sq (.cond (.t 11) (.skip)
 (.exit 0)) (
 sq (.block 1 (
 sq (.reg [
 O 12 (.iaddr (K1 10) (.t 8) (.t 10)),
 O 13 (.load (K1 10) (.t 12)),
 O 5 (.alloc (K1 10) (.a [(I 0), (I 0), (I 0), (I 0), (I 0), (I 0), (.s []), (.s []), (.l (K1 3) [] true), (.i .u64 0)])),
 E (.store (K1 10) (.t 5) (.t 13))] [13, 12]) (
 sq (.reg [
 O 14 (.faddr 8 (.t 5)),
 O 15 (.load K0 (.t 14)),
 O 16 (.len false (.t 15)),
 O 17 (.mov (.c (I 0)))] [14]) (
 .block 2 (
 .loop [0, 2, 5, 8, 9, 10, 15, 16, 17] L59_0))))) (
 .reg [
 O 34 (.bin .add (.t 10) (.c (I 1))),
 O 10 (.mov (.t 34))] [34])))
def F59 : PF := ⟨3, [],
 sq (.reg [
 O 8 (.load K0 (.t 1)),
 O 9 (.len false (.t 8)),
 O 10 (.mov (.c (I 0)))] [1]) (
 .block 0 (
 .loop [0, 2, 8, 9, 10] L59_1))⟩
def L65_0 : PC :=
 sq (sq (.reg [
 O 13 (.mov (.t 5)),
 O 14 (.bin .add (.t 13) (.c (I 1))),
 O 15 (.call 0 71 [(.t 14)]),
 O 16 (.mov (.t 0)),
 O 17 (.bin .leq (.t 15) (.t 16))] [16, 15, 14, 13]) (
 .cond (.t 17) (.skip)
 (.exit 0))) (
 .block 1 (
 .reg [
 O 18 (.mov (.t 5)),
 O 19 (.bin .add (.t 18) (.c (I 1))),
 O 5 (.mov (.t 19))] [19, 18]))
def L65_1 : PC :=
 sq (sq (.reg [
 O 24 (.mov (.t 0)),
 O 25 (.mov (.t 5)),
 O 26 (.mov (.t 6)),
 O 27 (.call 0 72 [(.t 25), (.t 26)]),
 O 28 (.bin .geq (.t 24) (.t 27))] [27, 26, 25, 24]) (
 .cond (.t 28) (.skip)
 (.exit 2))) (
 .block 3 (
 sq (.reg [
 O 29 (.mov (.t 0)),
 O 30 (.mov (.t 5)),
 O 31 (.mov (.t 6)),
 O 32 (.call 0 72 [(.t 30), (.t 31)]),
 O 33 (.bin .sub (.t 29) (.t 32)),
 O 0 (.mov (.t 33))] [33, 32, 31, 30, 29]) (
 .reg [
 O 34 (.mov (.t 6)),
 O 35 (.bin .add (.t 34) (.c (I 1))),
 O 6 (.mov (.t 35))] [35, 34])))
def F65 : PF := ⟨1, [.t 2, .t 3, .t 4],
 sq (.reg [
 O 2 (.mov (.c (I 0))),
 O 3 (.mov (.c (I 0))),
 O 4 (.mov (.c (I 0)))] [4, 3, 2]) (
 sq (sq (.reg [
 O 7 (.mov (.t 0)),
 O 8 (.call 0 22 [(.t 7)]),
 O 9 (.un .not (.t 8))] [8, 7]) (
 .cond (.t 9) (sq (.reg [
 O 2 (.mov (.c (I 0))),
 O 3 (.mov (.c (I 0))),
 O 4 (.mov (.c (I 0)))] []) (
 .ret))
 (.skip))) (
 sq (.reg [
 O 10 (.mov (.t 0)),
 O 11 (.bin .quo (.t 10) (.c (I 366))),
 O 12 (.bin .add (.c (I 2000)) (.t 11)),
 O 5 (.mov (.t 12))] [12, 11, 10]) (
 sq (.block 0 (
 .loop [0, 5] L65_0)) (
 sq (.reg [
 O 20 (.mov (.t 0)),
 O 21 (.mov (.t 5)),
 O 22 (.call 0 71 [(.t 21)]),
 O 23 (.bin .sub (.t 20) (.t 22)),
 O 0 (.mov (.t 23))] [23, 22, 21, 20]) (
 sq (.reg [
 O 6 (.mov (.c (I 1)))] []) (
 sq (.block 2 (
 .loop [0, 5, 6] L65_1)) (
 sq (.reg [
 O 36 (.mov (.t 5)),
 O 37 (.mov (.t 6)),
 O 38 (.mov (.t 0)),
 O 39 (.bin .add (.t 38) (.c (I 1))),
 O 2 (.mov (.t 36)),
 O 3 (.mov (.t 37)),
 O 4 (.mov (.t 39))] [39, 0, 38, 6, 37, 5, 36]) (
 .ret))))))))⟩
def F71 : PF := ⟨1, [.t 2],
 sq (.reg [
 O 2 (.mov (.c (I 0)))] [2]) (
 sq (.reg [
 O 5 (.mov (.t 0)),
 O 6 (.bin .sub (.t 5) (.c (I 2000))),
 O 3 (.mov (.t 6))] [6, 5]) (
 sq (.reg [
 O 7 (.mov (.t 3)),
 O 8 (.bin .add (.t 7) (.c (I 3))),
 O 9 (.bin .quo (.t 8) (.c (I 4))),
 O 4 (.mov (.t 9))] [9, 8, 7]) (
 sq (sq (.reg [
 O 10 (.mov (.t 0)),
 O 11 (.bin .gtr (.t 10) (.c (I 2100)))] [0, 10]) (
 .cond (.t 11) (.reg [
 O 12 (.mov (.t 4)),
 O 13 (.bin .sub (.t 12) (.c (I 1))),
 O 4 (.mov (.t 13))] [13, 12])
 (.skip))) (
 sq (.reg [
 O 14 (.mov (.t 3)),
 O 15 (.bin .mul (.c (I 365)) (.t 14)),
 O 16 (.mov (.t 4)),
 O 17 (.bin .add (.t 15) (.t 16)),
 O 2 (.mov (.t 17))] [17, 4, 16, 15, 3, 14]) (
 .ret)))))⟩
def F72 : PF := ⟨2, [.t 4],
 sq (.reg [
 O 4 (.mov (.c (I 0)))] [4]) (
 sq (.reg [
 O 6 (.agg [(I 0), (I 0), (I 0), (I 0), (I 0), (I 0), (I 0), (I 0), (I 0), (I 0), (I 0), (I 0), (I 0)] [(0, K0, (.c (I 0))), (1, K0, (.c (I 31))), (2, K0, (.c (I 28))), (3, K0, (.c (I 31))), (4, K0, (.c (I 30))), (5, K0, (.c (I 31))), (6, K0, (.c (I 30))), (7, K0, (.c (I 31))), (8, K0, (.c (I 31))), (9, K0, (.c (I 30))), (10, K0, (.c (I 31))), (11, K0, (.c (I 30))), (12, K0, (.c (I 31)))]),
 O 5 (.alloc (K1 13) (.a [(I 0), (I 0), (I 0), (I 0), (I 0), (I 0), (I 0), (I 0), (I 0), (I 0), (I 0), (I 0), (I 0)])),
 E (.store (K1 13) (.t 5) (.t 6))] [6]) (
 sq (sq (.reg [
 O 7 (.mov (.t 1)),
 O 8 (.bin .eql (.t 7) (.c (I 2))),
 O 9 (.mov (.t 8)),
 OG 10 9 true (.mov (.t 0)),
 OG 11 9 true (.call 0 66 [(.t 10)]),
 O 12 (.pick (.t 9) (.t 11) (.c (.b false)))] [11, 0, 10, 9, 8, 7]) (
 .cond (.t 12) (sq (.reg [
 O 4 (.mov (.c (I 29)))] []) (
 .ret))
 (.skip))) (
 sq (.reg [
 O 13 (.mov (.t 1)),
 O 14 (.iaddrA 13 K0 (.t 5) (.t 13)),
 O 15 (.load K0 (.t 14)),
 O 4 (.mov (.t 15))] [15, 5, 14, 1, 13]) (
 .ret))))⟩
def F110 : PF := ⟨1, [.t 2],
 sq (.reg [
 O 2 (.mov (.c (.l (K1 3) [] true)))] [2]) (
 sq (.reg [
 O 4 (.mov (.t 0)),
 O 5 (.call 1 179 [(.c (.l (K1 3) [] true)), (.t 4)]),
 O 3 (.mov (.t 5))] [5, 0, 4]) (
 sq (.reg [
 O 6 (.mov (.t 3)),
 O 7 (.call 2 180 [(.t 6), (.f 181)]),
 O 2 (.mov (.t 7))] [7, 3, 6]) (
 .ret)))⟩
def L179_0 : PC :=
 sq (.reg [
 O 12 (.bin .lss (.t 11) (.t 10))] []) (
 sq (.cond (.t 12) (.skip)
 (.exit 0)) (
 sq (.block 1 (
 sq (.reg [
 O 13 (.iaddr (K1 3) (.t 9) (.t 11)),
 O 14 (.load (K1 3) (.t 13)),
 O 6 (.alloc (K1 3) (.a [(I 0), (I 0), (.s [])])),
 E (.store (K1 3) (.t 6) (.t 14))] [14, 13]) (
 sq (.reg [
 O 16 (.mov (.t 0)),
 O 17 (.load (K1 3) (.t 6)),
 O 18 (.call 2 262 [(.t 16), (.t 17), (.f 263)]),
 O 15 (.mov (.t 18)),
 O 19 (.ext (.t 15) 0),
 O 20 (.ext (.t 15) 1),
 O 7 (.mov (.t 19)),
 O 8 (.mov (.t 20))] [20, 19, 15, 18, 17, 16]) (
 sq (.reg [
 O 21 (.mov (.t 8))] [8]) (
 .cond (.t 21) (.regD [
 O 22 (.mov (.t 0)),
 O 23 (.mov (.t 7)),
 O 24 (.iaddr (K1 3) (.t 22) (.t 23)),
 O 25 (.faddr 1 (.t 24)),
 O 26 (.load K0 (.t 25)),
 O 27 (.faddr 1 (.t 6)),
 O 28 (.load K0 (.t 27)),
 O 29 (.bin .add (.t 26) (.t 28)),
 O 30 (.iaddr (K1 3) (.t 22) (.t 23)),
 O 31 (.faddr 1 (.t 30)),
 E (.store K0 (.t 31) (.t 29))] [0, 0, 3, 7, 15, 0, 32, 127, 255, 511, 1023] [31, 30, 29, 28, 6, 27, 26, 25, 24, 7, 23, 22])
 (.reg [
 O 32 (.mov (.t 0)),
 O 33 (.mov (.t 7)),
 O 34 (.load (K1 3) (.t 6)),
 O 35 (.bsl (K1 3) (.a [(I 0), (I 0), (.s [])]) 1 [(0, (.t 34))]),
 O 36 (.call 2 264 [(.t 32), (.t 33), (.t 35)]),
 O 0 (.mov (.t 36))] [36, 35, 6, 34, 7, 33, 32])))))) (
 .reg [
 O 37 (.bin .add (.t 11) (.c (I 1))),
 O 11 (.mov (.t 37))] [37])))
def F179 : PF := ⟨2, [.t 4],
 sq (.reg [
 O 4 (.mov (.c (.l (K1 3) [] true)))] [4]) (
 sq (sq (.reg [
 O 9 (.mov (.t 1)),
 O 10 (.len false (.t 9)),
 O 11 (.mov (.c (I 0)))] [1]) (
 .block 0 (
 .loop [0, 9, 10, 11] L179_0))) (
 sq (.reg [
 O 38 (.mov (.t 0)),
 O 4 (.mov (.t 38))] [0, 38]) (
 .ret)))⟩
def L180_0 : PC :=
 sq (sq (.reg [
 O 16 (.mov (.t 6)),
 O 17 (.mov (.t 0)),
 O 18 (.len false (.t 17)),
 O 19 (.bin .lss (.t 16) (.t 18))] [18, 17, 16]) (
 .cond (.t 19) (.skip)
 (.exit 0))) (
 sq (.block 1 (
 sq (.reg [
 O 22 (.mov (.t 0)),
 O 23 (.mov (.t 6)),
 O 24 (.iaddr (K1 3) (.t 22) (.t 23)),
 O 25 (.load (K1 3) (.t 24)),
 O 7 (.alloc (K1 3) (.a [(I 0), (I 0), (.s [])])),
 E (.store (K1 3) (.t 7) (.t 25))] [25, 24, 23, 22]) (
 sq (.reg [
 O 26 (.mov (.t 1)),
 O 27 (.load (K1 3) (.t 7)),
 O 28 (.callv (.t 26) [(.t 27)]),
 O 29 (.un .not (.t 28))] [28, 27, 26]) (
 .cond (.t 29) (sq (.reg [
 O 30 (.mov (.t 0)),
 O 31 (.mov (.t 5)),
 O 32 (.load (K1 3) (.t 7)),
 O 33 (.iaddr (K1 3) (.t 30) (.t 31)),
 E (.store (K1 3) (.t 33) (.t 32))] [33, 7, 32, 31, 30]) (
 .reg [
 O 34 (.mov (.t 5)),
 O 35 (.bin .add (.t 34) (.c (I 1))),
 O 5 (.mov (.t 35))] [35, 34]))
 (.skip))))) (
 .reg [
 O 20 (.mov (.t 6)),
 O 21 (.bin .add (.t 20) (.c (I 1))),
 O 6 (.mov (.t 21))] [21, 20]))
def F180 : PF := ⟨2, [.t 4],
 sq (.reg [
 O 4 (.mov (.c (.l (K1 3) [] true)))] [4]) (
 sq (.reg [
 O 8 (.mov (.t 0)),
 O 9 (.mov (.t 1)),
 O 10 (.call 2 265 [(.t 8), (.t 9)]),
 O 5 (.mov (.t 10))] [10, 9, 8]) (
 sq (sq (.reg [
 O 11 (.mov (.t 5)),
 O 12 (.bin .eql (.t 11) (.c (I (-1))))] [11]) (
 .cond (.t 12) (sq (.reg [
 O 13 (.mov (.t 0)),
 O 4 (.mov (.t 13))] [0, 13]) (
 .ret))
 (.skip))) (
 sq (sq (.reg [
 O 14 (.mov (.t 5)),
 O 15 (.bin .add (.t 14) (.c (I 1))),
 O 6 (.mov (.t 15))] [15, 14]) (
 .block 0 (
 .loop [0, 1, 5, 6] L180_0))) (
 sq (.reg [
 O 36 (.mov (.t 0)),
 O 37 (.mov (.t 5)),
 O 38 (.sl (K1 3) (.t 36) (some (.t 37)) none none),
 E (.clr (K1 3) (.a [(I 0), (I 0), (.s [])]) (.t 38))] [38, 37, 36]) (
 sq (.reg [
 O 39 (.mov (.t 0)),
 O 40 (.mov (.t 5)),
 O 41 (.sl (K1 3) (.t 39) none (some (.t 40)) none),
 O 4 (.mov (.t 41))] [41, 5, 40, 0, 39]) (
 .ret))))))⟩
def F181 : PF := ⟨1, [.t 2],
 sq (.reg [
 O 1 (.box (K1 3) (.t 0)),
 O 2 (.mov (.c (.b false)))] [2, 0]) (
 sq (.reg [
 O 3 (.faddr 1 (.t 1)),
 O 4 (.load K0 (.t 3)),
 O 5 (.bin .eql (.t 4) (.c (I 0))),
 O 2 (.mov (.t 5))] [5, 4, 1, 3]) (
 .ret))⟩
def L262_0 : PC :=
 sq (sq (.reg [
 O 15 (.mov (.t 9)),
 O 16 (.mov (.t 10)),
 O 17 (.bin .lss (.t 15) (.t 16))] [16, 15]) (
 .cond (.t 17) (.skip)
 (.exit 0))) (
 .block 1 (
 sq (.reg [
 O 18 (.mov (.t 9)),
 O 19 (.mov (.t 10)),
 O 20 (.bin .add (.t 18) (.t 19)),
 O 21 (.conv .u64 (.t 20)),
 O 22 (.bin .shr (.t 21) (.c (.i .u64 1))),
 O 23 (.conv .i64 (.t 22)),
 O 11 (.mov (.t 23))] [23, 22, 21, 20, 19, 18]) (
 sq (.regD [
 O 24 (.mov (.t 2)),
 O 25 (.mov (.t 0)),
 O 26 (.mov (.t 11)),
 O 27 (.iaddr (K1 3) (.t 25) (.t 26)),
 O 28 (.load (K1 3) (.t 27)),
 O 29 (.load (K1 3) (.t 4)),
 O 30 (.callv (.t 24) [(.t 28), (.t 29)]),
 O 31 (.bin .lss (.t 30) (.c (I 0)))] [0, 0, 0, 6, 14, 0, 63, 127] [30, 29, 28, 27, 26, 25, 24]) (
 .cond (.t 31) (.reg [
 O 32 (.mov (.t 11)),
 O 33 (.bin .add (.t 32) (.c (I 1))),
 O 9 (.mov (.t 33))] [33, 11, 32])
 (.reg [
 O 34 (.mov (.t 11)),
 O 10 (.mov (.t 34))] [11, 34])))))
def F262 : PF := ⟨3, [.t 6, .t 7],
 sq (.reg [
 O 4 (.box (K1 3) (.t 1)),
 O 6 (.mov (.c (I 0))),
 O 7 (.mov (.c (.b false)))] [7, 6, 1]) (
 sq (.reg [
 O 12 (.mov (.t 0)),
 O 13 (.len false (.t 12)),
 O 8 (.mov (.t 13))] [13, 12]) (
 sq (.reg [
 O 14 (.mov (.t 8)),
 O 9 (.mov (.c (I 0))),
 O 10 (.mov (.t 14))] [14]) (
 sq (.block 0 (
 .loop [0, 2, 4, 8, 9, 10] L262_0)) (
 sq (.regD [
 O 35 (.mov (.t 9)),
 O 36 (.mov (.t 9)),
 O 37 (.mov (.t 8)),
 O 38 (.bin .lss (.t 36) (.t 37)),
 O 39 (.mov (.t 38)),
 OG 40 39 true (.mov (.t 2)),
 OG 41 39 true (.mov (.t 0)),
 OG 42 39 true (.mov (.t 9)),
 OG 43 39 true (.iaddr (K1 3) (.t 41) (.t 42)),
 OG 44 39 true (.load (K1 3) (.t 43)),
 OG 45 39 true (.load (K1 3) (.t 4)),
 OG 46 39 true (.callv (.t 40) [(.t 44), (.t 45)]),
 OG 47 39 true (.bin .eql (.t 46) (.c (I 0))),
 O 48 (.pick (.t 39) (.t 47) (.c (.b false))),
 O 6 (.mov (.t 35)),
 O 7 (.mov (.t 48))] [0, 0, 0, 6, 14, 30, 30, 30, 222, 478, 30, 2046, 4094, 8190, 4095, 32767] [48, 47, 46, 4, 45, 44, 43, 42, 0, 41, 2, 40, 39, 38, 8, 37, 36, 9, 35]) (
 .ret)))))⟩
def F263 : PF := ⟨2, [.t 4],
 sq (.reg [
 O 2 (.box (K1 3) (.t 0)),
 O 3 (.box (K1 3) (.t 1)),
 O 4 (.mov (.c (I 0)))] [4, 1, 0]) (
 sq (.regD [
 O 5 (.faddr 0 (.t 2)),
 O 6 (.load K0 (.t 5)),
 O 7 (.faddr 0 (.t 3)),
 O 8 (.load K0 (.t 7)),
 O 9 (.call 0 342 [(.t 6), (.t 8)]),
 O 10 (.faddr 2 (.t 2)),
 O 11 (.load K0 (.t 10)),
 O 12 (.faddr 2 (.t 3)),
 O 13 (.load K0 (.t 12)),
 O 14 (.call 0 268 [(.t 11), (.t 13)]),
 O 15 (.bsl K0 (I 0) 2 [(0, (.t 9)), (1, (.t 14))]),
 O 16 (.call 0 341 [(.t 15)]),
 O 4 (.mov (.t 16))] [0, 1, 0, 4, 15, 0, 32, 0, 128, 511, 1023, 2047, 4095] [16, 15, 14, 13, 12, 11, 10, 9, 8, 3, 7, 6, 2, 5]) (
 .ret))⟩
def F265 : PF := FidxG (K1 3)
def F268 : PF := ⟨2, [.t 4],
 sq (.reg [
 O 4 (.mov (.c (I 0)))] [4]) (
 sq (.reg [
 O 7 (.mov (.t 0)),
 O 8 (.call 0 344 [(.t 7)]),
 O 5 (.mov (.t 8))] [8, 7]) (
 sq (.reg [
 O 9 (.mov (.t 1)),
 O 10 (.call 0 344 [(.t 9)]),
 O 6 (.mov (.t 10))] [10, 9]) (
 sq (sq (.reg [
 O 11 (.mov (.t 5))] [5]) (
 .cond (.t 11) (sq (sq (.reg [
 O 12 (.mov (.t 6))] [6]) (
 .cond (.t 12) (sq (.reg [
 O 4 (.mov (.c (I 0)))] []) (
 .ret))
 (.skip))) (
 sq (.reg [
 O 4 (.mov (.c (I (-1))))] []) (
 .ret)))
 (.skip))) (
 sq (sq (.reg [
 O 13 (.mov (.t 6))] [6]) (
 .cond (.t 13) (sq (.reg [
 O 4 (.mov (.c (I 1)))] []) (
 .ret))
 (.skip))) (
 sq (sq (.reg [
 O 14 (.mov (.t 0)),
 O 15 (.mov (.t 1)),
 O 16 (.bin .lss (.t 14) (.t 15))] [15, 14]) (
 .cond (.t 16) (sq (.reg [
 O 4 (.mov (.c (I (-1))))] []) (
 .ret))
 (.skip))) (
 sq (sq (.reg [
 O 17 (.mov (.t 0)),
 O 18 (.mov (.t 1)),
 O 19 (.bin .gtr (.t 17) (.t 18))] [1, 18, 0, 17]) (
 .cond (.t 19) (sq (.reg [
 O 4 (.mov (.c (I 1)))] []) (
 .ret))
 (.skip))) (
 sq (.reg [
 O 4 (.mov (.c (I 0)))] []) (
 .ret))))))))⟩
def L341_0 : PC :=
 sq (.reg [
 O 9 (.bin .lss (.t 8) (.t 7))] []) (
 sq (.cond (.t 9) (.skip)
 (.exit 0)) (
 sq (.block 1 (
 sq (.reg [
 O 10 (.iaddr K0 (.t 6) (.t 8)),
 O 11 (.load K0 (.t 10)),
 O 5 (.mov (.t 11))] [11, 10]) (
 sq (.reg [
 O 12 (.mov (.t 5)),
 O 13 (.mov (.t 3)),
 O 14 (.bin .neq (.t 12) (.t 13))] [13, 12]) (
 .cond (.t 14) (sq (.reg [
 O 15 (.mov (.t 5)),
 O 2 (.mov (.t 15))] [5, 15]) (
 .ret))
 (.skip))))) (
 .reg [
 O 16 (.bin .add (.t 8) (.c (I 1))),
 O 8 (.mov (.t 16))] [16])))
def F341 : PF := ⟨1, [.t 2],
 sq (.reg [
 O 2 (.mov (.c (I 0)))] [2]) (
 sq (.reg [
 O 3 (.mov (.c (I 0)))] []) (
 sq (sq (.reg [
 O 6 (.mov (.t 0)),
 O 7 (.len false (.t 6)),
 O 8 (.mov (.c (I 0)))] [0]) (
 .block 0 (
 .loop [3, 6, 7, 8] L341_0))) (
 sq (.reg [
 O 17 (.mov (.t 3)),
 O 2 (.mov (.t 17))] [3, 17]) (
 .ret))))⟩
def F342 : PF := ⟨2, [.t 4],
 sq (.reg [
 O 4 (.mov (.c (I 0)))] [4]) (
 sq (.reg [
 O 7 (.mov (.t 0)),
 O 8 (.call 0 382 [(.t 7)]),
 O 5 (.mov (.t 8))] [8, 7]) (
 sq (.reg [
 O 9 (.mov (.t 1)),
 O 10 (.call 0 382 [(.t 9)]),
 O 6 (.mov (.t 10))] [10, 9]) (
 sq (sq (.reg [
 O 11 (.mov (.t 5))] [5]) (
 .cond (.t 11) (sq (sq (.reg [
 O 12 (.mov (.t 6))] [6]) (
 .cond (.t 12) (sq (.reg [
 O 4 (.mov (.c (I 0)))] []) (
 .ret))
 (.skip))) (
 sq (.reg [
 O 4 (.mov (.c (I (-1))))] []) (
 .ret)))
 (.skip))) (
 sq (sq (.reg [
 O 13 (.mov (.t 6))] [6]) (
 .cond (.t 13) (sq (.reg [
 O 4 (.mov (.c (I 1)))] []) (
 .ret))
 (.skip))) (
 sq (sq (.reg [
 O 14 (.mov (.t 0)),
 O 15 (.mov (.t 1)),
 O 16 (.bin .lss (.t 14) (.t 15))] [15, 14]) (
 .cond (.t 16) (sq (.reg [
 O 4 (.mov (.c (I (-1))))] []) (
 .ret))
 (.skip))) (
 sq (sq (.reg [
 O 17 (.mov (.t 0)),
 O 18 (.mov (.t 1)),
 O 19 (.bin .gtr (.t 17) (.t 18))] [1, 18, 0, 17]) (
 .cond (.t 19) (sq (.reg [
 O 4 (.mov (.c (I 1)))] []) (
 .ret))
 (.skip))) (
 sq (.reg [
 O 4 (.mov (.c (I 0)))] []) (
 .ret))))))))⟩
def F344 : PF := ⟨1, [.t 2],
 sq (.reg [
 O 2 (.mov (.c (.b false)))] [2]) (
 sq (.reg [
 O 3 (.mov (.t 0)),
 O 4 (.mov (.t 0)),
 O 5 (.bin .neq (.t 3) (.t 4)),
 O 2 (.mov (.t 5))] [5, 4, 0, 3]) (
 .ret))⟩
def F382 : PF := ⟨1, [.t 2],
 sq (.reg [
 O 2 (.mov (.c (.b false)))] [2]) (
 sq (.reg [
 O 3 (.mov (.t 0)),
 O 4 (.mov (.t 0)),
 O 5 (.bin .neq (.t 3) (.t 4)),
 O 2 (.mov (.t 5))] [5, 4, 0, 3]) (
 .ret))⟩
def L674_0 : PC :=
 sq (.reg [
 O 18 (.bin .lss (.t 17) (.t 16))] []) (
 sq (.cond (.t 18) (.skip)
 (.exit 0)) (
 sq (.block 1 (
 sq (.reg [
 O 19 (.iaddr (K1 3) (.t 15) (.t 17)),
 O 20 (.load (K1 3) (.t 19)),
 O 6 (.alloc (K1 3) (.a [(I 0), (I 0), (.s [])])),
 E (.store (K1 3) (.t 6) (.t 20))] [20, 19]) (
 sq (sq (.reg [
 O 21 (.faddr 0 (.t 6)),
 O 22 (.load K0 (.t 21)),
 O 23 (.bin .lss (.t 22) (.c (I 1000)))] [22, 21]) (
 .cond (.t 23) (.exit 1)
 (.skip))) (
 sq (.reg [
 O 25 (.load (K1 22) (.t 2)),
 O 26 (.faddr 0 (.t 6)),
 O 27 (.load K0 (.t 26)),
 O 28 (.call 0 12 [(.t 25), (.t 27)]),
 O 24 (.mov (.t 28)),
 O 29 (.ext (.t 24) 0),
 O 30 (.ext (.t 24) 1),
 O 7 (.alloc (K1 7) (.a [(I 0), (I 0), (I 0), (I 0), (.s []), (.s []), (.s [])])),
 E (.store (K1 7) (.t 7) (.t 29)),
 O 8 (.mov (.t 30))] [7, 30, 29, 24, 28, 27, 26, 25]) (
 .block 2 (
 sq (.reg [
 O 32 (.mov (.t 8)),
 O 33 (.un .not (.t 32)),
 O 31 (.mov (.t 33))] [33, 8, 32]) (
 .cond (.t 31) (sq (.reg [
 O 4 (.mov (.c (I 11)))] []) (
 .ret))
 (sq (.reg [
 O 35 (.load (K1 22) (.t 2)),
 O 36 (.faddr 0 (.t 6)),
 O 37 (.load K0 (.t 36)),
 O 38 (.faddr 1 (.t 3)),
 O 39 (.load K0 (.t 38)),
 O 40 (.call 0 39 [(.t 35), (.t 37), (.t 39)]),
 O 41 (.un .not (.t 40)),
 O 34 (.mov (.t 41))] [41, 40, 39, 38, 37, 36, 35]) (
 .cond (.t 34) (sq (.reg [
 O 4 (.mov (.c (I 16)))] []) (
 .ret))
 (sq (.reg [
 O 43 (.faddr 21 (.t 2)),
 O 44 (.load K0 (.t 43)),
 O 45 (.faddr 0 (.t 6)),
 O 46 (.load K0 (.t 45)),
 O 47 (.faddr 1 (.t 3)),
 O 48 (.load K0 (.t 47)),
 O 49 (.faddr 1 (.t 6)),
 O 50 (.load K0 (.t 49)),
 O 51 (.call 0 767 [(.t 44), (.t 46), (.t 48), (.t 50)]),
 O 42 (.mov (.t 51))] [51, 50, 49, 48, 47, 46, 45, 44, 43]) (
 .cond (.t 42) (sq (.reg [
 O 4 (.mov (.c (I 19)))] []) (
 .ret))
 (sq (.reg [
 O 53 (.faddr 1 (.t 6)),
 O 54 (.load K0 (.t 53)),
 O 55 (.bin .gtr (.t 54) (.c (I 0))),
 O 52 (.mov (.t 55))] [55, 54, 53]) (
 .cond (.t 52) (sq (.reg [
 O 56 (.load (K1 22) (.t 2)),
 O 57 (.faddr 0 (.t 6)),
 O 58 (.load K0 (.t 57)),
 O 59 (.faddr 1 (.t 3)),
 O 60 (.load K0 (.t 59)),
 O 61 (.faddr 1 (.t 6)),
 O 62 (.load K0 (.t 61)),
 O 63 (.call 0 768 [(.t 56), (.t 58), (.t 60), (.t 62)]),
 O 9 (.mov (.t 63))] [63, 62, 61, 60, 59, 58, 6, 57, 56]) (
 sq (.reg [
 O 64 (.mov (.t 9)),
 O 65 (.bin .neq (.t 64) (.c (I 0)))] [64]) (
 .cond (.t 65) (sq (.reg [
 O 66 (.mov (.t 9)),
 O 4 (.mov (.t 66))] [9, 66]) (
 .ret))
 (.skip))))
 (.skip)))))))))))))) (
 .reg [
 O 67 (.bin .add (.t 17) (.c (I 1))),
 O 17 (.mov (.t 67))] [67])))
def F674 : PF := ⟨2, [.t 4],
 sq (.reg [
 O 2 (.box (K1 22) (.t 0)),
 O 3 (.box (K1 10) (.t 1)),
 O 4 (.mov (.c (I 0)))] [4, 1, 0]) (
 sq (sq (.reg [
 O 10 (.faddr 4 (.t 3)),
 O 11 (.load K0 (.t 10)),
 O 12 (.bin .neq (.t 11) (.c (I 0)))] [11, 10]) (
 .cond (.t 12) (sq (.reg [
 O 4 (.mov (.c (I 0)))] []) (
 .ret))
 (.skip))) (
 sq (sq (.reg [
 O 13 (.faddr 8 (.t 3)),
 O 14 (.load K0 (.t 13)),
 O 15 (.call 0 110 [(.t 14)]),
 O 16 (.len false (.t 15)),
 O 17 (.mov (.c (I 0)))] [14, 13]) (
 .block 0 (
 .loop [2, 3, 15, 16, 17] L674_0))) (
 sq (.reg [
 O 4 (.mov (.c (I 0)))] []) (
 .ret))))⟩
end Go.Sim

