/- Part 7 of the proof: CbA25a. -/
import Derived.Test.YtehcjdaedhmkdaaGreatDoorB2
import Derived.Test.YtehcjdaedhmkdaaGreatDoorB6
namespace Go.Sim
def F110 : PF := ⟨1, [.t 2],
 sq (.reg [
 O 2 (.mov (.c (.l (K1 3) [] true)))] [2]) (
 sq (.reg [
 O 4 (.mov (.t 0)),
 O 5 (.call 1 179 [(.c (.l (K1 3) [] true)), (.t 4)]),
 O 3 (.mov (.t 5))] [5, 0, 4]) (
 sq (.reg [
 O 6 (.mov (.t 3)),
 O 7 (.call 2 180 [(.t 6), (.f 181)]),
 O 2 (.mov (.t 7))] [7, 3, 6]) (
 .ret)))⟩
def L179_0 : PC :=
 sq (.reg [
 O 12 (.bin .lss (.t 11) (.t 10))] []) (
 sq (.cond (.t 12) (.skip)
 (.exit 0)) (
 sq (.block 1 (
 sq (.reg [
 O 13 (.iaddr (K1 3) (.t 9) (.t 11)),
 O 14 (.load (K1 3) (.t 13)),
 O 6 (.alloc (K1 3) (.a [(I 0), (I 0), (.s [])])),
 E (.store (K1 3) (.t 6) (.t 14))] [14, 13]) (
 sq (.reg [
 O 16 (.mov (.t 0)),
 O 17 (.load (K1 3) (.t 6)),
 O 18 (.call 2 262 [(.t 16), (.t 17), (.f 263)]),
 O 15 (.mov (.t 18)),
 O 19 (.ext (.t 15) 0),
 O 20 (.ext (.t 15) 1),
 O 7 (.mov (.t 19)),
 O 8 (.mov (.t 20))] [20, 19, 15, 18, 17, 16]) (
 sq (.reg [
 O 21 (.mov (.t 8))] [8]) (
 .cond (.t 21) (.regD [
 O 22 (.mov (.t 0)),
 O 23 (.mov (.t 7)),
 O 24 (.iaddr (K1 3) (.t 22) (.t 23)),
 O 25 (.faddr 1 (.t 24)),
 O 26 (.load K0 (.t 25)),
 O 27 (.faddr 1 (.t 6)),
 O 28 (.load K0 (.t 27)),
 O 29 (.bin .add (.t 26) (.t 28)),
 O 30 (.iaddr (K1 3) (.t 22) (.t 23)),
 O 31 (.faddr 1 (.t 30)),
 E (.store K0 (.t 31) (.t 29))] [0, 0, 3, 7, 15, 0, 32, 127, 255, 511, 1023] [31, 30, 29, 28, 6, 27, 26, 25, 24, 7, 23, 22])
 (.reg [
 O 32 (.mov (.t 0)),
 O 33 (.mov (.t 7)),
 O 34 (.load (K1 3) (.t 6)),
 O 35 (.bsl (K1 3) (.a [(I 0), (I 0), (.s [])]) 1 [(0, (.t 34))]),
 O 36 (.call 2 264 [(.t 32), (.t 33), (.t 35)]),
 O 0 (.mov (.t 36))] [36, 35, 6, 34, 7, 33, 32])))))) (
 .reg [
 O 37 (.bin .add (.t 11) (.c (I 1))),
 O 11 (.mov (.t 37))] [37])))
def F179 : PF := ⟨2, [.t 4],
 sq (.reg [
 O 4 (.mov (.c (.l (K1 3) [] true)))] [4]) (
 sq (sq (.reg [
 O 9 (.mov (.t 1)),
 O 10 (.len false (.t 9)),
 O 11 (.mov (.c (I 0)))] [1]) (
 .block 0 (
 .loop [0, 9, 10, 11] L179_0))) (
 sq (.reg [
 O 38 (.mov (.t 0)),
 O 4 (.mov (.t 38))] [0, 38]) (
 .ret)))⟩
def L180_0 : PC :=
 sq (sq (.reg [
 O 16 (.mov (.t 6)),
 O 17 (.mov (.t 0)),
 O 18 (.len false (.t 17)),
 O 19 (.bin .lss (.t 16) (.t 18))] [18, 17, 16]) (
 .cond (.t 19) (.skip)
 (.exit 0))) (
 sq (.block 1 (
 sq (.reg [
 O 22 (.mov (.t 0)),
 O 23 (.mov (.t 6)),
 O 24 (.iaddr (K1 3) (.t 22) (.t 23)),
 O 25 (.load (K1 3) (.t 24)),
 O 7 (.alloc (K1 3) (.a [(I 0), (I 0), (.s [])])),
 E (.store (K1 3) (.t 7) (.t 25))] [25, 24, 23, 22]) (
 sq (.reg [
 O 26 (.mov (.t 1)),
 O 27 (.load (K1 3) (.t 7)),
 O 28 (.callv (.t 26) [(.t 27)]),
 O 29 (.un .not (.t 28))] [28, 27, 26]) (
 .cond (.t 29) (sq (.reg [
 O 30 (.mov (.t 0)),
 O 31 (.mov (.t 5)),
 O 32 (.load (K1 3) (.t 7)),
 O 33 (.iaddr (K1 3) (.t 30) (.t 31)),
 E (.store (K1 3) (.t 33) (.t 32))] [33, 7, 32, 31, 30]) (
 .reg [
 O 34 (.mov (.t 5)),
 O 35 (.bin .add (.t 34) (.c (I 1))),
 O 5 (.mov (.t 35))] [35, 34]))
 (.skip))))) (
 .reg [
 O 20 (.mov (.t 6)),
 O 21 (.bin .add (.t 20) (.c (I 1))),
 O 6 (.mov (.t 21))] [21, 20]))
def F180 : PF := ⟨2, [.t 4],
 sq (.reg [
 O 4 (.mov (.c (.l (K1 3) [] true)))] [4]) (
 sq (.reg [
 O 8 (.mov (.t 0)),
 O 9 (.mov (.t 1)),
 O 10 (.call 2 265 [(.t 8), (.t 9)]),
 O 5 (.mov (.t 10))] [10, 9, 8]) (
 sq (sq (.reg [
 O 11 (.mov (.t 5)),
 O 12 (.bin .eql (.t 11) (.c (I (-1))))] [11]) (
 .cond (.t 12) (sq (.reg [
 O 13 (.mov (.t 0)),
 O 4 (.mov (.t 13))] [0, 13]) (
 .ret))
 (.skip))) (
 sq (sq (.reg [
 O 14 (.mov (.t 5)),
 O 15 (.bin .add (.t 14) (.c (I 1))),
 O 6 (.mov (.t 15))] [15, 14]) (
 .block 0 (
 .loop [0, 1, 5, 6] L180_0))) (
 sq (.reg [
 O 36 (.mov (.t 0)),
 O 37 (.mov (.t 5)),
 O 38 (.sl (K1 3) (.t 36) (some (.t 37)) none none),
 E (.clr (K1 3) (.a [(I 0), (I 0), (.s [])]) (.t 38))] [38, 37, 36]) (
 sq (.reg [
 O 39 (.mov (.t 0)),
 O 40 (.mov (.t 5)),
 O 41 (.sl (K1 3) (.t 39) none (some (.t 40)) none),
 O 4 (.mov (.t 41))] [41, 5, 40, 0, 39]) (
 .ret))))))⟩
def F181 : PF := ⟨1, [.t 2],
 sq (.reg [
 O 1 (.box (K1 3) (.t 0)),
 O 2 (.mov (.c (.b false)))] [2, 0]) (
 sq (.reg [
 O 3 (.faddr 1 (.t 1)),
 O 4 (.load K0 (.t 3)),
 O 5 (.bin .eql (.t 4) (.c (I 0))),
 O 2 (.mov (.t 5))] [5, 4, 1, 3]) (
 .ret))⟩
def L262_0 : PC :=
 sq (sq (.reg [
 O 15 (.mov (.t 9)),
 O 16 (.mov (.t 10)),
 O 17 (.bin .lss (.t 15) (.t 16))] [16, 15]) (
 .cond (.t 17) (.skip)
 (.exit 0))) (
 .block 1 (
 sq (.reg [
 O 18 (.mov (.t 9)),
 O 19 (.mov (.t 10)),
 O 20 (.bin .add (.t 18) (.t 19)),
 O 21 (.conv .u64 (.t 20)),
 O 22 (.bin .shr (.t 21) (.c (.i .u64 1))),
 O 23 (.conv .i64 (.t 22)),
 O 11 (.mov (.t 23))] [23, 22, 21, 20, 19, 18]) (
 sq (.regD [
 O 24 (.mov (.t 2)),
 O 25 (.mov (.t 0)),
 O 26 (.mov (.t 11)),
 O 27 (.iaddr (K1 3) (.t 25) (.t 26)),
 O 28 (.load (K1 3) (.t 27)),
 O 29 (.load (K1 3) (.t 4)),
 O 30 (.callv (.t 24) [(.t 28), (.t 29)]),
 O 31 (.bin .lss (.t 30) (.c (I 0)))] [0, 0, 0, 6, 14, 0, 63, 127] [30, 29, 28, 27, 26, 25, 24]) (
 .cond (.t 31) (.reg [
 O 32 (.mov (.t 11)),
 O 33 (.bin .add (.t 32) (.c (I 1))),
 O 9 (.mov (.t 33))] [33, 11, 32])
 (.reg [
 O 34 (.mov (.t 11)),
 O 10 (.mov (.t 34))] [11, 34])))))
def F262 : PF := ⟨3, [.t 6, .t 7],
 sq (.reg [
 O 4 (.box (K1 3) (.t 1)),
 O 6 (.mov (.c (I 0))),
 O 7 (.mov (.c (.b false)))] [7, 6, 1]) (
 sq (.reg [
 O 12 (.mov (.t 0)),
 O 13 (.len false (.t 12)),
 O 8 (.mov (.t 13))] [13, 12]) (
 sq (.reg [
 O 14 (.mov (.t 8)),
 O 9 (.mov (.c (I 0))),
 O 10 (.mov (.t 14))] [14]) (
 sq (.block 0 (
 .loop [0, 2, 4, 8, 9, 10] L262_0)) (
 sq (.regD [
 O 35 (.mov (.t 9)),
 O 36 (.mov (.t 9)),
 O 37 (.mov (.t 8)),
 O 38 (.bin .lss (.t 36) (.t 37)),
 O 39 (.mov (.t 38)),
 OG 40 39 true (.mov (.t 2)),
 OG 41 39 true (.mov (.t 0)),
 OG 42 39 true (.mov (.t 9)),
 OG 43 39 true (.iaddr (K1 3) (.t 41) (.t 42)),
 OG 44 39 true (.load (K1 3) (.t 43)),
 OG 45 39 true (.load (K1 3) (.t 4)),
 OG 46 39 true (.callv (.t 40) [(.t 44), (.t 45)]),
 OG 47 39 true (.bin .eql (.t 46) (.c (I 0))),
 O 48 (.pick (.t 39) (.t 47) (.c (.b false))),
 O 6 (.mov (.t 35)),
 O 7 (.mov (.t 48))] [0, 0, 0, 6, 14, 30, 30, 30, 222, 478, 30, 2046, 4094, 8190, 4095, 32767] [48, 47, 46, 4, 45, 44, 43, 42, 0, 41, 2, 40, 39, 38, 8, 37, 36, 9, 35]) (
 .ret)))))⟩
def F263 : PF := ⟨2, [.t 4],
 sq (.reg [
 O 2 (.box (K1 3) (.t 0)),
 O 3 (.box (K1 3) (.t 1)),
 O 4 (.mov (.c (I 0)))] [4, 1, 0]) (
 sq (.regD [
 O 5 (.faddr 0 (.t 2)),
 O 6 (.load K0 (.t 5)),
 O 7 (.faddr 0 (.t 3)),
 O 8 (.load K0 (.t 7)),
 O 9 (.call 0 342 [(.t 6), (.t 8)]),
 O 10 (.faddr 2 (.t 2)),
 O 11 (.load K0 (.t 10)),
 O 12 (.faddr 2 (.t 3)),
 O 13 (.load K0 (.t 12)),
 O 14 (.call 0 268 [(.t 11), (.t 13)]),
 O 15 (.bsl K0 (I 0) 2 [(0, (.t 9)), (1, (.t 14))]),
 O 16 (.call 0 341 [(.t 15)]),
 O 4 (.mov (.t 16))] [0, 1, 0, 4, 15, 0, 32, 0, 128, 511, 1023, 2047, 4095] [16, 15, 14, 13, 12, 11, 10, 9, 8, 3, 7, 6, 2, 5]) (
 .ret))⟩
def F265 : PF := FidxG (K1 3)
def F268 : PF := ⟨2, [.t 4],
 sq (.reg [
 O 4 (.mov (.c (I 0)))] [4]) (
 sq (.reg [
 O 7 (.mov (.t 0)),
 O 8 (.call 0 344 [(.t 7)]),
 O 5 (.mov (.t 8))] [8, 7]) (
 sq (.reg [
 O 9 (.mov (.t 1)),
 O 10 (.call 0 344 [(.t 9)]),
 O 6 (.mov (.t 10))] [10, 9]) (
 sq (sq (.reg [
 O 11 (.mov (.t 5))] [5]) (
 .cond (.t 11) (sq (sq (.reg [
 O 12 (.mov (.t 6))] [6]) (
 .cond (.t 12) (sq (.reg [
 O 4 (.mov (.c (I 0)))] []) (
 .ret))
 (.skip))) (
 sq (.reg [
 O 4 (.mov (.c (I (-1))))] []) (
 .ret)))
 (.skip))) (
 sq (sq (.reg [
 O 13 (.mov (.t 6))] [6]) (
 .cond (.t 13) (sq (.reg [
 O 4 (.mov (.c (I 1)))] []) (
 .ret))
 (.skip))) (
 sq (sq (.reg [
 O 14 (.mov (.t 0)),
 O 15 (.mov (.t 1)),
 O 16 (.bin .lss (.t 14) (.t 15))] [15, 14]) (
 .cond (.t 16) (sq (.reg [
 O 4 (.mov (.c (I (-1))))] []) (
 .ret))
 (.skip))) (
 sq (sq (.reg [
 O 17 (.mov (.t 0)),
 O 18 (.mov (.t 1)),
 O 19 (.bin .gtr (.t 17) (.t 18))] [1, 18, 0, 17]) (
 .cond (.t 19) (sq (.reg [
 O 4 (.mov (.c (I 1)))] []) (
 .ret))
 (.skip))) (
 sq (.reg [
 O 4 (.mov (.c (I 0)))] []) (
 .ret))))))))⟩
def L341_0 : PC :=
 sq (.reg [
 O 9 (.bin .lss (.t 8) (.t 7))] []) (
 sq (.cond (.t 9) (.skip)
 (.exit 0)) (
 sq (.block 1 (
 sq (.reg [
 O 10 (.iaddr K0 (.t 6) (.t 8)),
 O 11 (.load K0 (.t 10)),
 O 5 (.mov (.t 11))] [11, 10]) (
 sq (.reg [
 O 12 (.mov (.t 5)),
 O 13 (.mov (.t 3)),
 O 14 (.bin .neq (.t 12) (.t 13))] [13, 12]) (
 .cond (.t 14) (sq (.reg [
 O 15 (.mov (.t 5)),
 O 2 (.mov (.t 15))] [5, 15]) (
 .ret))
 (.skip))))) (
 .reg [
 O 16 (.bin .add (.t 8) (.c (I 1))),
 O 8 (.mov (.t 16))] [16])))
def F341 : PF := ⟨1, [.t 2],
 sq (.reg [
 O 2 (.mov (.c (I 0)))] [2]) (
 sq (.reg [
 O 3 (.mov (.c (I 0)))] []) (
 sq (sq (.reg [
 O 6 (.mov (.t 0)),
 O 7 (.len false (.t 6)),
 O 8 (.mov (.c (I 0)))] [0]) (
 .block 0 (
 .loop [3, 6, 7, 8] L341_0))) (
 sq (.reg [
 O 17 (.mov (.t 3)),
 O 2 (.mov (.t 17))] [3, 17]) (
 .ret))))⟩
def F342 : PF := ⟨2, [.t 4],
 sq (.reg [
 O 4 (.mov (.c (I 0)))] [4]) (
 sq (.reg [
 O 7 (.mov (.t 0)),
 O 8 (.call 0 382 [(.t 7)]),
 O 5 (.mov (.t 8))] [8, 7]) (
 sq (.reg [
 O 9 (.mov (.t 1)),
 O 10 (.call 0 382 [(.t 9)]),
 O 6 (.mov (.t 10))] [10, 9]) (
 sq (sq (.reg [
 O 11 (.mov (.t 5))] [5]) (
 .cond (.t 11) (sq (sq (.reg [
 O 12 (.mov (.t 6))] [6]) (
 .cond (.t 12) (sq (.reg [
 O 4 (.mov (.c (I 0)))] []) (
 .ret))
 (.skip))) (
 sq (.reg [
 O 4 (.mov (.c (I (-1))))] []) (
 .ret)))
 (.skip))) (
 sq (sq (.reg [
 O 13 (.mov (.t 6))] [6]) (
 .cond (.t 13) (sq (.reg [
 O 4 (.mov (.c (I 1)))] []) (
 .ret))
 (.skip))) (
 sq (sq (.reg [
 O 14 (.mov (.t 0)),
 O 15 (.mov (.t 1)),
 O 16 (.bin .lss (.t 14) (.t 15))] [15, 14]) (
 .cond (.t 16) (sq (.reg [
 O 4 (.mov (.c (I (-1))))] []) (
 .ret))
 (.skip))) (
 sq (sq (.reg [
 O 17 (.mov (.t 0)),
 O 18 (.mov (.t 1)),
 O 19 (.bin .gtr (.t 17) (.t 18))] [1, 18, 0, 17]) (
 .cond (.t 19) (sq (.reg [
 O 4 (.mov (.c (I 1)))] []) (
 .ret))
 (.skip))) (
 sq (.reg [
 O 4 (.mov (.c (I 0)))] []) (
 .ret))))))))⟩
def F344 : PF := ⟨1, [.t 2],
 sq (.reg [
 O 2 (.mov (.c (.b false)))] [2]) (
 sq (.reg [
 O 3 (.mov (.t 0)),
 O 4 (.mov (.t 0)),
 O 5 (.bin .neq (.t 3) (.t 4)),
 O 2 (.mov (.t 5))] [5, 4, 0, 3]) (
 .ret))⟩
def F382 : PF := ⟨1, [.t 2],
 sq (.reg [
 O 2 (.mov (.c (.b false)))] [2]) (
 sq (.reg [
 O 3 (.mov (.t 0)),
 O 4 (.mov (.t 0)),
 O 5 (.bin .neq (.t 3) (.t 4)),
 O 2 (.mov (.t 5))] [5, 4, 0, 3]) (
 .ret))⟩
end Go.Sim

