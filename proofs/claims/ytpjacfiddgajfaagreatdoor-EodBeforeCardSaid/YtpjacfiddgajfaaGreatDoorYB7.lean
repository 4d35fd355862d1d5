/- Part 7 of the proof: CbA52a. -/
import Derived.Test.YtpjacfiddgajfaaGreatDoorYB2
namespace Go.Sim
def F10 : PF := ⟨1, [.c 2 (K1 10)],
 sq (.reg [
 O 1 (.box (K1 10) (.t 0)),
 O 2 (.alloc (K1 10) (.a [(I 0), (I 0), (I 0), (I 0), (I 0), (I 0), (.s []), (.s []), (.l (K1 3) [] true), (.i .u64 0)]))] [0]) (
 sq (.reg [
 O 3 (.faddr 8 (.t 1)),
 O 4 (.load K0 (.t 3)),
 O 5 (.call 1 15 [(.t 4)]),
 O 6 (.faddr 8 (.t 1)),
 E (.store K0 (.t 6) (.t 5))] [6, 5, 4, 3]) (
 sq (.reg [
 O 7 (.load (K1 10) (.t 1)),
 E (.store (K1 10) (.t 2) (.t 7))] [1, 7]) (
 .ret)))⟩
def L40_0 : PC :=
 sq (.reg [
 O 10 (.alloc (K1 10) (.a [(I 0), (I 0), (I 0), (I 0), (I 0), (I 0), (.s []), (.s []), (.l (K1 3) [] true), (.i .u64 0)])),
 E (.store (K1 10) (.t 10) (.t 15))] [15]) (
 .reg [
 O 11 (.mov (.t 16))] [16])
def L40_1 : PC :=
 .block 1 (
 sq (.reg [
 O 17 (.faddr 1 (.t 10)),
 O 18 (.load K0 (.t 17)),
 O 19 (.load K0 (.t 6)),
 O 20 (.bin .leq (.t 18) (.t 19)),
 O 21 (.mov (.t 20)),
 OG 22 21 true (.faddr 2 (.t 10)),
 OG 23 21 true (.load K0 (.t 22)),
 OG 24 21 true (.load K0 (.t 7)),
 OG 25 21 true (.bin .leq (.t 23) (.t 24)),
 O 26 (.pick (.t 21) (.t 25) (.c (.b false)))] [25, 7, 24, 23, 22, 21, 20, 6, 19, 18, 10, 17]) (
 .cond (.t 26) (.reg [
 O 27 (.load K0 (.t 9)),
 O 28 (.mov (.t 11)),
 O 29 (.bin .sub (.t 27) (.t 28)),
 E (.store K0 (.t 9) (.t 29))] [29, 11, 28, 9, 27])
 (.skip)))
def F40 : PF := ⟨4, [.t 8],
 sq (.reg [
 O 6 (.box K0 (.t 2)),
 O 7 (.box K0 (.t 3)),
 O 8 (.mov (.c (I 0)))] [8, 3, 2]) (
 sq (.reg [
 O 9 (.alloc K0 (I 0)),
 E (.store K0 (.t 9) (.c (I 0)))] []) (
 sq (sq (.reg [
 O 12 (.mov (.t 0)),
 O 13 (.mov (.t 1)),
 O 14 (.call 2 50 [(.t 12), (.t 13)])] [1, 13, 0, 12]) (
 .block 0 (
 .rng (.t 14) 100016 [15, 16] [6, 7, 9] L40_0 L40_1))) (
 sq (.reg [
 O 30 (.load K0 (.t 9)),
 O 8 (.mov (.t 30))] [9, 30]) (
 .ret))))⟩
def F146 : PF := ⟨1, [.c 2 (K1 22)],
 sq (.reg [
 O 1 (.box (K1 22) (.t 0)),
 O 2 (.alloc (K1 22) (.a [(.l (K1 2) [] true), (.l (K1 3) [] true), (.l (K1 4) [] true), (I 0), (I 0), (I 0), (I 0), (I 0), (I 0), (I 0), (I 0), (I 0), (I 0), (I 0), (I 0), (I 0), (I 0), (.l (K1 19) [] true), (.l (K1 7) [] true), (.l (K1 10) [] true), (.l (K1 6) [] true), (.l (K1 7) [] true)]))] [0]) (
 sq (.regD [
 O 3 (.faddr 0 (.t 1)),
 O 4 (.load K0 (.t 3)),
 O 5 (.call 1 225 [(.t 4)]),
 O 6 (.faddr 2 (.t 1)),
 O 7 (.load K0 (.t 6)),
 O 8 (.call 1 226 [(.t 7)]),
 O 9 (.faddr 18 (.t 1)),
 O 10 (.load K0 (.t 9)),
 O 11 (.call 1 227 [(.t 10)]),
 O 12 (.faddr 0 (.t 1)),
 E (.store K0 (.t 12) (.t 5)),
 O 13 (.faddr 2 (.t 1)),
 E (.store K0 (.t 13) (.t 8)),
 O 14 (.faddr 18 (.t 1)),
 E (.store K0 (.t 14) (.t 11))] [0, 1, 3, 0, 8, 31, 0, 64, 255, 223, 1023, 2047, 4095, 8191, 16383] [14, 13, 12, 11, 10, 9, 8, 7, 6, 5, 4, 3]) (
 sq (.regD [
 O 15 (.faddr 20 (.t 1)),
 O 16 (.load K0 (.t 15)),
 O 17 (.call 1 228 [(.t 16)]),
 O 18 (.faddr 21 (.t 1)),
 O 19 (.load K0 (.t 18)),
 O 20 (.call 1 229 [(.t 19)]),
 O 21 (.faddr 20 (.t 1)),
 E (.store K0 (.t 21) (.t 17)),
 O 22 (.faddr 21 (.t 1)),
 E (.store K0 (.t 22) (.t 20))] [0, 1, 3, 0, 8, 31, 31, 127, 255, 511] [22, 21, 20, 19, 18, 17, 16, 15]) (
 sq (.reg [
 O 23 (.faddr 1 (.t 1)),
 O 24 (.load K0 (.t 23)),
 O 25 (.call 2 230 [(.t 24), (.f 231)]),
 O 26 (.faddr 1 (.t 1)),
 E (.store K0 (.t 26) (.t 25))] [26, 25, 24, 23]) (
 sq (.reg [
 O 27 (.faddr 17 (.t 1)),
 O 28 (.load K0 (.t 27)),
 O 29 (.call 2 232 [(.t 28), (.f 233)]),
 O 30 (.faddr 17 (.t 1)),
 E (.store K0 (.t 30) (.t 29))] [30, 29, 28, 27]) (
 sq (.reg [
 O 31 (.faddr 19 (.t 1)),
 O 32 (.load K0 (.t 31)),
 O 33 (.call 0 234 [(.t 32)]),
 O 34 (.faddr 19 (.t 1)),
 E (.store K0 (.t 34) (.t 33))] [34, 33, 32, 31]) (
 sq (.reg [
 O 35 (.load (K1 22) (.t 1)),
 E (.store (K1 22) (.t 2) (.t 35))] [1, 35]) (
 .ret)))))))⟩
def F207 : PF := ⟨2, [.t 4],
 sq (.reg [
 O 4 (.mov (.c (.b false)))] [4]) (
 sq (.reg [
 O 5 (.mov (.t 0)),
 O 6 (.mov (.t 1)),
 O 7 (.call 0 291 [(.t 5), (.t 6)]),
 O 4 (.mov (.t 7))] [7, 1, 6, 0, 5]) (
 .ret))⟩
def L230_0 : PC :=
 sq (.reg [
 O 14 (.bin .lss (.t 13) (.t 12))] []) (
 sq (.cond (.t 14) (.skip)
 (.exit 0)) (
 sq (.block 1 (
 sq (.reg [
 O 15 (.iaddr (K1 3) (.t 11) (.t 13)),
 O 16 (.load (K1 3) (.t 15)),
 O 7 (.alloc (K1 3) (.a [(.s []), (.l K0 [] true), (.l K0 [] true)])),
 E (.store (K1 3) (.t 7) (.t 16))] [16, 15]) (
 .reg [
 O 17 (.mov (.t 5)),
 O 18 (.mov (.t 1)),
 O 19 (.load (K1 3) (.t 7)),
 O 20 (.callv (.t 18) [(.t 19)]),
 O 21 (.bsl (K1 3) (.a [(.s []), (.l K0 [] true), (.l K0 [] true)]) 1 [(0, (.t 20))]),
 O 22 (.app (K1 3) 64 (.t 17) (.t 21)),
 O 5 (.mov (.t 22))] [22, 21, 20, 7, 19, 18, 17]))) (
 .reg [
 O 23 (.bin .add (.t 13) (.c (I 1))),
 O 13 (.mov (.t 23))] [23])))
def F230 : PF := ⟨2, [.t 4],
 sq (.reg [
 O 4 (.mov (.c (.l (K1 3) [] true)))] [4]) (
 sq (.reg [
 O 8 (.mov (.t 0)),
 O 9 (.len false (.t 8)),
 O 10 (.mksl (K1 3) 64 (.a [(.s []), (.l K0 [] true), (.l K0 [] true)]) (.c (I 0)) (.t 9)),
 O 5 (.mov (.t 10))] [10, 9, 8]) (
 sq (sq (.reg [
 O 11 (.mov (.t 0)),
 O 12 (.len false (.t 11)),
 O 13 (.mov (.c (I 0)))] [0]) (
 .block 0 (
 .loop [1, 5, 11, 12, 13] L230_0))) (
 sq (.reg [
 O 24 (.mov (.t 5)),
 O 4 (.mov (.t 24))] [5, 24]) (
 .ret))))⟩
def F231 : PF := ⟨1, [.c 2 (K1 3)],
 sq (.reg [
 O 1 (.box (K1 3) (.t 0)),
 O 2 (.alloc (K1 3) (.a [(.s []), (.l K0 [] true), (.l K0 [] true)]))] [0]) (
 sq (.regD [
 O 3 (.faddr 1 (.t 1)),
 O 4 (.load K0 (.t 3)),
 O 5 (.call 1 160 [(.t 4)]),
 O 6 (.faddr 2 (.t 1)),
 O 7 (.load K0 (.t 6)),
 O 8 (.call 1 160 [(.t 7)]),
 O 9 (.faddr 1 (.t 1)),
 E (.store K0 (.t 9) (.t 5)),
 O 10 (.faddr 2 (.t 1)),
 E (.store K0 (.t 10) (.t 8))] [0, 1, 3, 0, 8, 31, 31, 127, 255, 511] [10, 9, 8, 7, 6, 5, 4, 3]) (
 sq (.reg [
 O 11 (.load (K1 3) (.t 1)),
 E (.store (K1 3) (.t 2) (.t 11))] [1, 11]) (
 .ret)))⟩
def L232_0 : PC :=
 sq (.reg [
 O 14 (.bin .lss (.t 13) (.t 12))] []) (
 sq (.cond (.t 14) (.skip)
 (.exit 0)) (
 sq (.block 1 (
 sq (.reg [
 O 15 (.iaddr (K1 19) (.t 11) (.t 13)),
 O 16 (.load (K1 19) (.t 15)),
 O 7 (.alloc (K1 19) (.a [(.s []), (.s []), (.s []), (I 0), (I 0), (I 0), (I 0), (.l (K1 2) [] true), (.b false), (I 0), (I 0), (.b false), (.l (K1 2) [] true), (.b false), (I 0), (I 0), (.b false), (.l (K1 10) [] true), (.l (K1 6) [] true)])),
 E (.store (K1 19) (.t 7) (.t 16))] [16, 15]) (
 .reg [
 O 17 (.mov (.t 5)),
 O 18 (.mov (.t 1)),
 O 19 (.load (K1 19) (.t 7)),
 O 20 (.callv (.t 18) [(.t 19)]),
 O 21 (.bsl (K1 19) (.a [(.s []), (.s []), (.s []), (I 0), (I 0), (I 0), (I 0), (.l (K1 2) [] true), (.b false), (I 0), (I 0), (.b false), (.l (K1 2) [] true), (.b false), (I 0), (I 0), (.b false), (.l (K1 10) [] true), (.l (K1 6) [] true)]) 1 [(0, (.t 20))]),
 O 22 (.app (K1 19) 240 (.t 17) (.t 21)),
 O 5 (.mov (.t 22))] [22, 21, 20, 7, 19, 18, 17]))) (
 .reg [
 O 23 (.bin .add (.t 13) (.c (I 1))),
 O 13 (.mov (.t 23))] [23])))
def F232 : PF := ⟨2, [.t 4],
 sq (.reg [
 O 4 (.mov (.c (.l (K1 19) [] true)))] [4]) (
 sq (.reg [
 O 8 (.mov (.t 0)),
 O 9 (.len false (.t 8)),
 O 10 (.mksl (K1 19) 240 (.a [(.s []), (.s []), (.s []), (I 0), (I 0), (I 0), (I 0), (.l (K1 2) [] true), (.b false), (I 0), (I 0), (.b false), (.l (K1 2) [] true), (.b false), (I 0), (I 0), (.b false), (.l (K1 10) [] true), (.l (K1 6) [] true)]) (.c (I 0)) (.t 9)),
 O 5 (.mov (.t 10))] [10, 9, 8]) (
 sq (sq (.reg [
 O 11 (.mov (.t 0)),
 O 12 (.len false (.t 11)),
 O 13 (.mov (.c (I 0)))] [0]) (
 .block 0 (
 .loop [1, 5, 11, 12, 13] L232_0))) (
 sq (.reg [
 O 24 (.mov (.t 5)),
 O 4 (.mov (.t 24))] [5, 24]) (
 .ret))))⟩
def F233 : PF := ⟨1, [.c 2 (K1 19)],
 sq (.reg [
 O 1 (.box (K1 19) (.t 0)),
 O 2 (.alloc (K1 19) (.a [(.s []), (.s []), (.s []), (I 0), (I 0), (I 0), (I 0), (.l (K1 2) [] true), (.b false), (I 0), (I 0), (.b false), (.l (K1 2) [] true), (.b false), (I 0), (I 0), (.b false), (.l (K1 10) [] true), (.l (K1 6) [] true)]))] [0]) (
 sq (.regD [
 O 3 (.faddr 7 (.t 1)),
 O 4 (.load (K1 5) (.t 3)),
 O 5 (.call 0 304 [(.t 4)]),
 O 6 (.faddr 12 (.t 1)),
 O 7 (.load (K1 5) (.t 6)),
 O 8 (.call 0 304 [(.t 7)]),
 O 9 (.faddr 7 (.t 1)),
 E (.store (K1 5) (.t 9) (.t 5)),
 O 10 (.faddr 12 (.t 1)),
 E (.store (K1 5) (.t 10) (.t 8))] [0, 1, 3, 0, 8, 31, 31, 127, 255, 511] [10, 9, 8, 7, 6, 5, 4, 3]) (
 sq (.reg [
 O 11 (.faddr 17 (.t 1)),
 O 12 (.load K0 (.t 11)),
 O 13 (.call 2 305 [(.t 12), (.f 306)]),
 O 14 (.faddr 17 (.t 1)),
 E (.store K0 (.t 14) (.t 13))] [14, 13, 12, 11]) (
 sq (.reg [
 O 15 (.faddr 18 (.t 1)),
 O 16 (.load K0 (.t 15)),
 O 17 (.call 2 308 [(.t 16), (.f 309)]),
 O 18 (.faddr 18 (.t 1)),
 E (.store K0 (.t 18) (.t 17))] [18, 17, 16, 15]) (
 sq (.reg [
 O 19 (.load (K1 19) (.t 1)),
 E (.store (K1 19) (.t 2) (.t 19))] [1, 19]) (
 .ret)))))⟩
def F234 : PF := ⟨1, [.t 2],
 sq (.reg [
 O 2 (.mov (.c (.l (K1 10) [] true)))] [2]) (
 sq (.reg [
 O 3 (.mov (.t 0)),
 O 4 (.call 2 310 [(.t 3), (.f 10)]),
 O 2 (.mov (.t 4))] [4, 0, 3]) (
 .ret))⟩
def F291 : PF := ⟨2, [.t 4],
 sq (.reg [
 O 4 (.mov (.c (.b false)))] [4]) (
 sq (.reg [
 O 5 (.mov (.t 0)),
 O 6 (.len true (.t 5)),
 O 7 (.mov (.t 1)),
 O 8 (.len true (.t 7)),
 O 9 (.bin .geq (.t 6) (.t 8)),
 O 10 (.mov (.t 9)),
 OG 11 10 true (.mov (.t 0)),
 OG 12 10 true (.mov (.t 1)),
 OG 13 10 true (.len true (.t 12)),
 OG 14 10 true (.slS (.t 11) none (some (.t 13))),
 OG 15 10 true (.mov (.t 1)),
 OG 16 10 true (.bin .eql (.t 14) (.t 15)),
 O 17 (.pick (.t 10) (.t 16) (.c (.b false))),
 O 4 (.mov (.t 17))] [17, 16, 15, 14, 13, 12, 11, 10, 9, 8, 1, 7, 6, 0, 5]) (
 .ret))⟩
def F304 : PF := ⟨1, [.c 2 (K1 5)],
 sq (.reg [
 O 1 (.box (K1 5) (.t 0)),
 O 2 (.alloc (K1 5) (.a [(.l (K1 2) [] true), (.b false), (I 0), (I 0), (.b false)]))] [0]) (
 sq (.reg [
 O 3 (.faddr 0 (.t 1)),
 O 4 (.load K0 (.t 3)),
 O 5 (.call 1 60 [(.t 4)]),
 O 6 (.faddr 0 (.t 1)),
 E (.store K0 (.t 6) (.t 5))] [6, 5, 4, 3]) (
 sq (.reg [
 O 7 (.load (K1 5) (.t 1)),
 E (.store (K1 5) (.t 2) (.t 7))] [1, 7]) (
 .ret)))⟩
def L305_0 : PC :=
 sq (.reg [
 O 14 (.bin .lss (.t 13) (.t 12))] []) (
 sq (.cond (.t 14) (.skip)
 (.exit 0)) (
 sq (.block 1 (
 sq (.reg [
 O 15 (.iaddr (K1 10) (.t 11) (.t 13)),
 O 16 (.load (K1 10) (.t 15)),
 O 7 (.alloc (K1 10) (.a [(.s []), (I 0), (I 0), (I 0), (.s []), (.l (K1 4) [] true), (I 0), (I 0), (.s []), (.l (K1 4) [] true)])),
 E (.store (K1 10) (.t 7) (.t 16))] [16, 15]) (
 .reg [
 O 17 (.mov (.t 5)),
 O 18 (.mov (.t 1)),
 O 19 (.load (K1 10) (.t 7)),
 O 20 (.callv (.t 18) [(.t 19)]),
 O 21 (.bsl (K1 10) (.a [(.s []), (I 0), (I 0), (I 0), (.s []), (.l (K1 4) [] true), (I 0), (I 0), (.s []), (.l (K1 4) [] true)]) 1 [(0, (.t 20))]),
 O 22 (.app (K1 10) 136 (.t 17) (.t 21)),
 O 5 (.mov (.t 22))] [22, 21, 20, 7, 19, 18, 17]))) (
 .reg [
 O 23 (.bin .add (.t 13) (.c (I 1))),
 O 13 (.mov (.t 23))] [23])))
def F305 : PF := ⟨2, [.t 4],
 sq (.reg [
 O 4 (.mov (.c (.l (K1 10) [] true)))] [4]) (
 sq (.reg [
 O 8 (.mov (.t 0)),
 O 9 (.len false (.t 8)),
 O 10 (.mksl (K1 10) 136 (.a [(.s []), (I 0), (I 0), (I 0), (.s []), (.l (K1 4) [] true), (I 0), (I 0), (.s []), (.l (K1 4) [] true)]) (.c (I 0)) (.t 9)),
 O 5 (.mov (.t 10))] [10, 9, 8]) (
 sq (sq (.reg [
 O 11 (.mov (.t 0)),
 O 12 (.len false (.t 11)),
 O 13 (.mov (.c (I 0)))] [0]) (
 .block 0 (
 .loop [1, 5, 11, 12, 13] L305_0))) (
 sq (.reg [
 O 24 (.mov (.t 5)),
 O 4 (.mov (.t 24))] [5, 24]) (
 .ret))))⟩
def L308_0 : PC :=
 sq (.reg [
 O 14 (.bin .lss (.t 13) (.t 12))] []) (
 sq (.cond (.t 14) (.skip)
 (.exit 0)) (
 sq (.block 1 (
 sq (.reg [
 O 15 (.iaddr (K1 6) (.t 11) (.t 13)),
 O 16 (.load (K1 6) (.t 15)),
 O 7 (.alloc (K1 6) (.a [(.s []), (I 0), (I 0), (I 0), (.s []), (.l (K1 4) [] true)])),
 E (.store (K1 6) (.t 7) (.t 16))] [16, 15]) (
 .reg [
 O 17 (.mov (.t 5)),
 O 18 (.mov (.t 1)),
 O 19 (.load (K1 6) (.t 7)),
 O 20 (.callv (.t 18) [(.t 19)]),
 O 21 (.bsl (K1 6) (.a [(.s []), (I 0), (I 0), (I 0), (.s []), (.l (K1 4) [] true)]) 1 [(0, (.t 20))]),
 O 22 (.app (K1 6) 80 (.t 17) (.t 21)),
 O 5 (.mov (.t 22))] [22, 21, 20, 7, 19, 18, 17]))) (
 .reg [
 O 23 (.bin .add (.t 13) (.c (I 1))),
 O 13 (.mov (.t 23))] [23])))
def F308 : PF := ⟨2, [.t 4],
 sq (.reg [
 O 4 (.mov (.c (.l (K1 6) [] true)))] [4]) (
 sq (.reg [
 O 8 (.mov (.t 0)),
 O 9 (.len false (.t 8)),
 O 10 (.mksl (K1 6) 80 (.a [(.s []), (I 0), (I 0), (I 0), (.s []), (.l (K1 4) [] true)]) (.c (I 0)) (.t 9)),
 O 5 (.mov (.t 10))] [10, 9, 8]) (
 sq (sq (.reg [
 O 11 (.mov (.t 0)),
 O 12 (.len false (.t 11)),
 O 13 (.mov (.c (I 0)))] [0]) (
 .block 0 (
 .loop [1, 5, 11, 12, 13] L308_0))) (
 sq (.reg [
 O 24 (.mov (.t 5)),
 O 4 (.mov (.t 24))] [5, 24]) (
 .ret))))⟩
def L310_0 : PC :=
 sq (.reg [
 O 14 (.bin .lss (.t 13) (.t 12))] []) (
 sq (.cond (.t 14) (.skip)
 (.exit 0)) (
 sq (.block 1 (
 sq (.reg [
 O 15 (.iaddr (K1 10) (.t 11) (.t 13)),
 O 16 (.load (K1 10) (.t 15)),
 O 7 (.alloc (K1 10) (.a [(I 0), (I 0), (I 0), (I 0), (I 0), (I 0), (.s []), (.s []), (.l (K1 3) [] true), (.i .u64 0)])),
 E (.store (K1 10) (.t 7) (.t 16))] [16, 15]) (
 .reg [
 O 17 (.mov (.t 5)),
 O 18 (.mov (.t 1)),
 O 19 (.load (K1 10) (.t 7)),
 O 20 (.callv (.t 18) [(.t 19)]),
 O 21 (.bsl (K1 10) (.a [(I 0), (I 0), (I 0), (I 0), (I 0), (I 0), (.s []), (.s []), (.l (K1 3) [] true), (.i .u64 0)]) 1 [(0, (.t 20))]),
 O 22 (.app (K1 10) 112 (.t 17) (.t 21)),
 O 5 (.mov (.t 22))] [22, 21, 20, 7, 19, 18, 17]))) (
 .reg [
 O 23 (.bin .add (.t 13) (.c (I 1))),
 O 13 (.mov (.t 23))] [23])))
def F310 : PF := ⟨2, [.t 4],
 sq (.reg [
 O 4 (.mov (.c (.l (K1 10) [] true)))] [4]) (
 sq (.reg [
 O 8 (.mov (.t 0)),
 O 9 (.len false (.t 8)),
 O 10 (.mksl (K1 10) 112 (.a [(I 0), (I 0), (I 0), (I 0), (I 0), (I 0), (.s []), (.s []), (.l (K1 3) [] true), (.i .u64 0)]) (.c (I 0)) (.t 9)),
 O 5 (.mov (.t 10))] [10, 9, 8]) (
 sq (sq (.reg [
 O 11 (.mov (.t 0)),
 O 12 (.len false (.t 11)),
 O 13 (.mov (.c (I 0)))] [0]) (
 .block 0 (
 .loop [1, 5, 11, 12, 13] L310_0))) (
 sq (.reg [
 O 24 (.mov (.t 5)),
 O 4 (.mov (.t 24))] [5, 24]) (
 .ret))))⟩
def F517 : PF := ⟨1, [.t 2],
 sq (.reg [
 O 2 (.mov (.c (.s [])))] [2]) (
 sq (sq (.reg [
 O 3 (.mov (.t 0)),
 O 4 (.bin .lss (.t 3) (.c (I 0)))] [3]) (
 .cond (.t 4) (sq (sq (.reg [
 O 5 (.mov (.t 0)),
 O 6 (.bin .gtr (.t 5) (.c (I (-10))))] [5]) (
 .cond (.t 6) (sq (.reg [
 O 7 (.mov (.t 0)),
 O 8 (.un .neg (.t 7)),
 O 9 (.call 0 517 [(.t 8)]),
 O 10 (.bin .add (.c (.s [45])) (.t 9)),
 O 2 (.mov (.t 10))] [10, 9, 8, 0, 7]) (
 .ret))
 (.skip))) (
 sq (.reg [
 O 11 (.mov (.t 0)),
 O 12 (.bin .quo (.t 11) (.c (I 10))),
 O 13 (.call 0 517 [(.t 12)]),
 O 14 (.mov (.t 0)),
 O 15 (.bin .rem (.t 14) (.c (I 10))),
 O 16 (.un .neg (.t 15)),
 O 17 (.call 0 517 [(.t 16)]),
 O 18 (.bin .add (.t 13) (.t 17)),
 O 2 (.mov (.t 18))] [18, 17, 16, 15, 14, 13, 12, 0, 11]) (
 .ret)))
 (.skip))) (
 sq (sq (.reg [
 O 19 (.mov (.t 0)),
 O 20 (.bin .lss (.t 19) (.c (I 10)))] [19]) (
 .cond (.t 20) (sq (.reg [
 O 21 (.mov (.t 0)),
 O 22 (.mov (.t 0)),
 O 23 (.bin .add (.t 22) (.c (I 1))),
 O 24 (.slS (.c (.s [48, 49, 50, 51, 52, 53, 54, 55, 56, 57])) (some (.t 21)) (some (.t 23))),
 O 2 (.mov (.t 24))] [24, 23, 22, 0, 21]) (
 .ret))
 (.skip))) (
 sq (.reg [
 O 25 (.mov (.t 0)),
 O 26 (.bin .quo (.t 25) (.c (I 10))),
 O 27 (.call 0 517 [(.t 26)]),
 O 28 (.mov (.t 0)),
 O 29 (.bin .rem (.t 28) (.c (I 10))),
 O 30 (.call 0 517 [(.t 29)]),
 O 31 (.bin .add (.t 27) (.t 30)),
 O 2 (.mov (.t 31))] [31, 30, 29, 28, 27, 26, 0, 25]) (
 .ret))))⟩
def L528_0 : PC :=
 sq (sq (.reg [
 O 13 (.mov (.t 6)),
 O 14 (.bin .gtr (.t 13) (.c (I 0))),
 O 15 (.mov (.t 14)),
 OG 16 15 true (.mov (.t 5)),
 OG 17 15 true (.faddr 3 (.t 2)),
 OG 18 15 true (.faddr 19 (.t 17)),
 OG 19 15 true (.load K0 (.t 18)),
 OG 20 15 true (.mov (.t 6)),
 OG 21 15 true (.bin .sub (.t 20) (.c (I 1))),
 OG 22 15 true (.iaddr (K1 10) (.t 19) (.t 21)),
 OG 23 15 true (.load (K1 10) (.t 22)),
 OG 24 15 true (.callv (.t 16) [(.t 23)]),
 O 25 (.pick (.t 15) (.t 24) (.c (.b false)))] [24, 23, 22, 21, 20, 19, 18, 17, 16, 15, 14, 13]) (
 .cond (.t 25) (.skip)
 (.exit 0))) (
 .block 1 (
 .reg [
 O 26 (.mov (.t 6)),
 O 27 (.bin .sub (.t 26) (.c (I 1))),
 O 6 (.mov (.t 27))] [27, 26]))
def F528 : PF := ⟨2, [.c 4 (K1 22)],
 sq (.reg [
 O 2 (.box (K1 42) (.t 0)),
 O 3 (.box (K1 2) (.t 1)),
 O 4 (.alloc (K1 22) (.a [(.l (K1 2) [] true), (.l (K1 3) [] true), (.l (K1 4) [] true), (I 0), (I 0), (I 0), (I 0), (I 0), (I 0), (I 0), (I 0), (I 0), (I 0), (I 0), (I 0), (I 0), (I 0), (.l (K1 19) [] true), (.l (K1 7) [] true), (.l (K1 10) [] true), (.l (K1 6) [] true), (.l (K1 7) [] true)]))] [1, 0]) (
 sq (.reg [
 O 8 (.mkf 560 [(.t 3), (.t 2)]),
 O 5 (.mov (.t 8))] [3, 8]) (
 sq (.reg [
 O 9 (.faddr 3 (.t 2)),
 O 10 (.faddr 19 (.t 9)),
 O 11 (.load K0 (.t 10)),
 O 12 (.len false (.t 11)),
 O 6 (.mov (.t 12))] [12, 11, 10, 9]) (
 sq (.block 0 (
 .loop [2, 4, 5, 6] L528_0)) (
 sq (.reg [
 O 28 (.faddr 3 (.t 2)),
 O 29 (.load (K1 22) (.t 28)),
 O 7 (.alloc (K1 22) (.a [(.l (K1 2) [] true), (.l (K1 3) [] true), (.l (K1 4) [] true), (I 0), (I 0), (I 0), (I 0), (I 0), (I 0), (I 0), (I 0), (I 0), (I 0), (I 0), (I 0), (I 0), (I 0), (.l (K1 19) [] true), (.l (K1 7) [] true), (.l (K1 10) [] true), (.l (K1 6) [] true), (.l (K1 7) [] true)])),
 E (.store (K1 22) (.t 7) (.t 29))] [29, 2, 28]) (
 sq (.reg [
 O 30 (.faddr 19 (.t 7)),
 O 31 (.load K0 (.t 30)),
 O 32 (.mov (.t 6)),
 O 33 (.sl (K1 10) (.t 31) none (some (.t 32)) none),
 O 34 (.faddr 19 (.t 7)),
 E (.store K0 (.t 34) (.t 33))] [34, 33, 6, 32, 31, 30]) (
 sq (.reg [
 O 35 (.load (K1 22) (.t 7)),
 O 36 (.call 0 146 [(.t 35)]),
 E (.store (K1 22) (.t 4) (.t 36))] [36, 7, 35]) (
 .ret)))))))⟩
end Go.Sim

