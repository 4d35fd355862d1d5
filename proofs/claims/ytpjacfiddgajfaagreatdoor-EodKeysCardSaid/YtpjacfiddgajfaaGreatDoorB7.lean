/- Part 7 of the proof: CbA52a. -/
import Derived.Test.YtpjacfiddgajfaaGreatDoorB2
namespace Go.Sim
def F10 : PF := ⟨1, [.c 2 (K1 10)],
 sq (.reg [
 O 1 (.box (K1 10) (.t 0)),
 O 2 (.alloc (K1 10) (.a [(I 0), (I 0), (I 0), (I 0), (I 0), (I 0), (.s []), (.s []), (.l (K1 3) [] true), (.i .u64 0)]))] [0]) (
 sq (.reg [
 O 3 (.faddr 8 (.t 1)),
 O 4 (.load K0 (.t 3)),
 O 5 (.call 1 15 [(.t 4)]),
 O 6 (.faddr 8 (.t 1)),
 E (.store K0 (.t 6) (.t 5))] [6, 5, 4, 3]) (
 sq (.reg [
 O 7 (.load (K1 10) (.t 1)),
 E (.store (K1 10) (.t 2) (.t 7))] [1, 7]) (
 .ret)))⟩
def F12 : PF := ⟨2, [.c 4 (K1 7), .t 5],
 sq (.reg [
 O 2 (.box (K1 22) (.t 0)),
 O 4 (.alloc (K1 7) (.a [(I 0), (I 0), (I 0), (I 0), (.s []), (.s []), (.s [])])),
 O 5 (.mov (.c (.b false)))] [5, 0]) (
 sq (.reg [
 O 7 (.load (K1 22) (.t 2)),
 O 8 (.mov (.t 1)),
 O 9 (.call 0 16 [(.t 7), (.t 8)]),
 O 6 (.mov (.t 9))] [9, 1, 8, 7]) (
 sq (sq (.reg [
 O 10 (.mov (.t 6)),
 O 11 (.bin .lss (.t 10) (.c (I 0)))] [10]) (
 .cond (.t 11) (sq (.reg [
 O 12 (.agg [(I 0), (I 0), (I 0), (I 0), (.s []), (.s []), (.s [])] []),
 E (.store (K1 7) (.t 4) (.t 12)),
 O 5 (.mov (.c (.b false)))] [12]) (
 .ret))
 (.skip))) (
 sq (.reg [
 O 13 (.faddr 18 (.t 2)),
 O 14 (.load K0 (.t 13)),
 O 15 (.mov (.t 6)),
 O 16 (.iaddr (K1 7) (.t 14) (.t 15)),
 O 17 (.load (K1 7) (.t 16)),
 E (.store (K1 7) (.t 4) (.t 17)),
 O 5 (.mov (.c (.b true)))] [17, 16, 6, 15, 14, 2, 13]) (
 .ret))))⟩
def F16 : PF := ⟨2, [.t 4],
 sq (.reg [
 O 2 (.box (K1 22) (.t 0)),
 O 3 (.box K0 (.t 1)),
 O 4 (.mov (.c (I 0)))] [4, 1, 0]) (
 sq (.reg [
 O 5 (.faddr 18 (.t 2)),
 O 6 (.load K0 (.t 5)),
 O 7 (.mkf 19 [(.t 3)]),
 O 8 (.call 2 18 [(.t 6), (.t 7)]),
 O 4 (.mov (.t 8))] [8, 3, 7, 6, 2, 5]) (
 .ret))⟩
def L18_0 : PC :=
 sq (.reg [
 O 9 (.bin .lss (.t 8) (.t 7))] []) (
 sq (.cond (.t 9) (.skip)
 (.exit 0)) (
 sq (.block 1 (
 sq (.reg [
 O 10 (.mov (.t 8)),
 O 5 (.mov (.t 10))] [10]) (
 sq (.reg [
 O 11 (.mov (.t 1)),
 O 12 (.mov (.t 0)),
 O 13 (.mov (.t 5)),
 O 14 (.iaddr (K1 7) (.t 12) (.t 13)),
 O 15 (.load (K1 7) (.t 14)),
 O 16 (.callv (.t 11) [(.t 15)])] [15, 14, 13, 12, 11]) (
 .cond (.t 16) (sq (.reg [
 O 17 (.mov (.t 5)),
 O 4 (.mov (.t 17))] [5, 17]) (
 .ret))
 (.skip))))) (
 .reg [
 O 18 (.bin .add (.t 8) (.c (I 1))),
 O 8 (.mov (.t 18))] [18])))
def F18 : PF := ⟨2, [.t 4],
 sq (.reg [
 O 4 (.mov (.c (I 0)))] [4]) (
 sq (sq (.reg [
 O 6 (.mov (.t 0)),
 O 7 (.len false (.t 6)),
 O 8 (.mov (.c (I 0)))] [6]) (
 .block 0 (
 .loop [0, 1, 7, 8] L18_0))) (
 sq (.reg [
 O 4 (.mov (.c (I (-1))))] []) (
 .ret)))⟩
def F19 : PF := ⟨2, [.t 3],
 sq (.reg [
 O 2 (.box (K1 7) (.t 0)),
 O 3 (.mov (.c (.b false)))] [3, 0]) (
 sq (.reg [
 O 4 (.faddr 0 (.t 2)),
 O 5 (.load K0 (.t 4)),
 O 6 (.load K0 (.t 1)),
 O 7 (.bin .eql (.t 5) (.t 6)),
 O 3 (.mov (.t 7))] [7, 1, 6, 5, 2, 4]) (
 .ret))⟩
def F20 : PF := ⟨4, [.c 8 (K1 11), .t 9],
 sq (.reg [
 O 4 (.box (K1 22) (.t 0)),
 O 8 (.alloc (K1 11) (.a [(I 0), (I 0), (I 0), (I 0), (I 0), (I 0), (I 0), (I 0), (.i .u64 0), (I 0), (.i .u64 0)])),
 O 9 (.mov (.c (I 0)))] [9, 0]) (
 sq (.reg [
 O 21 (.load (K1 22) (.t 4)),
 O 22 (.mov (.t 2)),
 O 23 (.call 0 12 [(.t 21), (.t 22)]),
 O 20 (.mov (.t 23)),
 O 24 (.ext (.t 20) 0),
 O 25 (.ext (.t 20) 1),
 O 10 (.alloc (K1 7) (.a [(I 0), (I 0), (I 0), (I 0), (.s []), (.s []), (.s [])])),
 E (.store (K1 7) (.t 10) (.t 24)),
 O 11 (.mov (.t 25))] [25, 24, 20, 23, 22, 21]) (
 sq (sq (.reg [
 O 26 (.mov (.t 11)),
 O 27 (.un .not (.t 26))] [11, 26]) (
 .cond (.t 27) (sq (.reg [
 O 28 (.agg [(I 0), (I 0), (I 0), (I 0), (I 0), (I 0), (I 0), (I 0), (.i .u64 0), (I 0), (.i .u64 0)] []),
 E (.store (K1 11) (.t 8) (.t 28)),
 O 9 (.mov (.c (I 11)))] [28]) (
 .ret))
 (.skip))) (
 sq (.reg [
 O 29 (.mov (.t 1)),
 O 30 (.load (K1 7) (.t 10)),
 O 31 (.call 0 21 [(.t 29), (.t 30)]),
 O 12 (.mov (.t 31))] [31, 10, 30, 29]) (
 sq (sq (.reg [
 O 32 (.mov (.t 3)),
 O 33 (.call 0 22 [(.t 32)]),
 O 34 (.un .not (.t 33)),
 O 35 (.mov (.t 34)),
 OG 36 35 false (.mov (.t 12)),
 OG 37 35 false (.call 0 22 [(.t 36)]),
 OG 38 35 false (.un .not (.t 37)),
 O 39 (.pick (.t 35) (.c (.b true)) (.t 38)),
 O 40 (.mov (.t 39)),
 OG 41 40 false (.mov (.t 12)),
 OG 42 40 false (.mov (.t 3)),
 OG 43 40 false (.bin .gtr (.t 41) (.t 42)),
 O 44 (.pick (.t 40) (.c (.b true)) (.t 43))] [43, 42, 41, 40, 39, 38, 37, 36, 35, 34, 33, 32]) (
 .cond (.t 44) (sq (.reg [
 O 45 (.agg [(I 0), (I 0), (I 0), (I 0), (I 0), (I 0), (I 0), (I 0), (.i .u64 0), (I 0), (.i .u64 0)] []),
 E (.store (K1 11) (.t 8) (.t 45)),
 O 9 (.mov (.c (I 1)))] [45]) (
 .ret))
 (.skip))) (
 sq (.reg [
 O 47 (.load (K1 22) (.t 4)),
 O 48 (.mov (.t 2)),
 O 49 (.mov (.t 12)),
 O 50 (.mov (.t 3)),
 O 51 (.call 0 23 [(.t 47), (.t 48), (.t 49), (.t 50)]),
 O 46 (.mov (.t 51)),
 O 52 (.ext (.t 46) 0),
 O 53 (.ext (.t 46) 1),
 O 13 (.mov (.t 52)),
 O 14 (.mov (.t 53))] [53, 52, 46, 51, 50, 49, 48, 47]) (
 sq (sq (.reg [
 O 54 (.mov (.t 14)),
 O 55 (.bin .neq (.t 54) (.c (I 0)))] [54]) (
 .cond (.t 55) (sq (.reg [
 O 56 (.agg [(I 0), (I 0), (I 0), (I 0), (I 0), (I 0), (I 0), (I 0), (.i .u64 0), (I 0), (.i .u64 0)] []),
 O 57 (.mov (.t 14)),
 E (.store (K1 11) (.t 8) (.t 56)),
 O 9 (.mov (.t 57))] [14, 57, 56]) (
 .ret))
 (.skip))) (
 sq (.reg [
 O 59 (.load (K1 22) (.t 4)),
 O 60 (.mov (.t 2)),
 O 61 (.mov (.t 3)),
 O 62 (.call 0 24 [(.t 59), (.t 60), (.t 61)]),
 O 58 (.mov (.t 62)),
 O 63 (.ext (.t 58) 0),
 O 64 (.ext (.t 58) 1),
 O 15 (.alloc (K1 19) (.a [(.s []), (.s []), (.s []), (I 0), (I 0), (I 0), (I 0), (.l (K1 2) [] true), (.b false), (I 0), (I 0), (.b false), (.l (K1 2) [] true), (.b false), (I 0), (I 0), (.b false), (.l (K1 10) [] true), (.l (K1 6) [] true)])),
 E (.store (K1 19) (.t 15) (.t 63)),
 O 11 (.mov (.t 64))] [64, 63, 58, 62, 61, 60, 4, 59]) (
 sq (sq (.reg [
 O 65 (.mov (.t 11)),
 O 66 (.un .not (.t 65))] [11, 65]) (
 .cond (.t 66) (sq (.reg [
 O 67 (.agg [(I 0), (I 0), (I 0), (I 0), (I 0), (I 0), (I 0), (I 0), (.i .u64 0), (I 0), (.i .u64 0)] []),
 E (.store (K1 11) (.t 8) (.t 67)),
 O 9 (.mov (.c (I 11)))] [67]) (
 .ret))
 (.skip))) (
 sq (.reg [
 O 16 (.alloc (K1 4) (.a [(I 0), (.i .u64 0), (I 0), (.i .u64 0)]))] []) (
 sq (sq (.reg [
 O 69 (.mov (.t 13)),
 O 70 (.call 0 25 [(.t 69)]),
 O 68 (.mov (.t 70)),
 O 71 (.ext (.t 68) 0),
 O 72 (.ext (.t 68) 1),
 O 73 (.ext (.t 68) 2),
 O 74 (.faddr 0 (.t 16)),
 E (.store (K1 2) (.t 74) (.t 71)),
 O 75 (.faddr 2 (.t 16)),
 E (.store (K1 2) (.t 75) (.t 72)),
 O 14 (.mov (.t 73))] [75, 74, 73, 72, 71, 68, 70, 13, 69]) (
 sq (.reg [
 O 76 (.mov (.t 14)),
 O 77 (.bin .neq (.t 76) (.c (I 0)))] [76]) (
 .cond (.t 77) (sq (.reg [
 O 78 (.agg [(I 0), (I 0), (I 0), (I 0), (I 0), (I 0), (I 0), (I 0), (.i .u64 0), (I 0), (.i .u64 0)] []),
 O 79 (.mov (.t 14)),
 E (.store (K1 11) (.t 8) (.t 78)),
 O 9 (.mov (.t 79))] [14, 79, 78]) (
 .ret))
 (.skip)))) (
 sq (.reg [
 O 81 (.mov (.t 1)),
 O 82 (.mov (.t 2)),
 O 83 (.call 0 26 [(.t 81), (.t 82)]),
 O 80 (.mov (.t 83)),
 O 84 (.ext (.t 80) 0),
 O 85 (.ext (.t 80) 1),
 O 17 (.alloc (K1 11) (.a [(I 0), (I 0), (I 0), (I 0), (I 0), (I 0), (I 0), (I 0), (.i .u64 0), (I 0), (.i .u64 0)])),
 E (.store (K1 11) (.t 17) (.t 84)),
 O 18 (.mov (.t 85))] [18, 85, 84, 80, 83, 82, 1, 81]) (
 sq (.reg [
 O 86 (.mov (.t 2)),
 O 87 (.mov (.t 12)),
 O 88 (.mov (.t 3)),
 O 89 (.agg [(I 0), (I 0), (I 0), (I 0), (I 0), (I 0), (I 0), (I 0), (.i .u64 0), (I 0), (.i .u64 0)] [(0, K0, (.t 86)), (1, K0, (.t 87)), (2, K0, (.t 88))]),
 O 19 (.alloc (K1 11) (.a [(I 0), (I 0), (I 0), (I 0), (I 0), (I 0), (I 0), (I 0), (.i .u64 0), (I 0), (.i .u64 0)])),
 E (.store (K1 11) (.t 19) (.t 89))] [89, 3, 88, 12, 87, 2, 86]) (
 sq (sq (.reg [
 O 91 (.faddr 7 (.t 15)),
 O 92 (.load (K1 5) (.t 91)),
 O 93 (.faddr 0 (.t 16)),
 O 94 (.load (K1 2) (.t 93)),
 O 95 (.faddr 7 (.t 17)),
 O 96 (.load (K1 2) (.t 95)),
 O 97 (.call 0 27 [(.t 92), (.t 94), (.t 96)]),
 O 90 (.mov (.t 97)),
 O 98 (.ext (.t 90) 0),
 O 99 (.ext (.t 90) 1),
 O 100 (.ext (.t 90) 2),
 O 101 (.faddr 3 (.t 19)),
 E (.store K0 (.t 101) (.t 98)),
 O 102 (.faddr 7 (.t 19)),
 E (.store (K1 2) (.t 102) (.t 99)),
 O 14 (.mov (.t 100))] [102, 101, 100, 99, 98, 90, 97, 96, 95, 94, 93, 92, 91]) (
 sq (.reg [
 O 103 (.mov (.t 14)),
 O 104 (.bin .neq (.t 103) (.c (I 0)))] [103]) (
 .cond (.t 104) (sq (.reg [
 O 105 (.agg [(I 0), (I 0), (I 0), (I 0), (I 0), (I 0), (I 0), (I 0), (.i .u64 0), (I 0), (.i .u64 0)] []),
 O 106 (.mov (.t 14)),
 E (.store (K1 11) (.t 8) (.t 105)),
 O 9 (.mov (.t 106))] [14, 106, 105]) (
 .ret))
 (.skip)))) (
 sq (sq (.reg [
 O 108 (.faddr 12 (.t 15)),
 O 109 (.load (K1 5) (.t 108)),
 O 110 (.faddr 2 (.t 16)),
 O 111 (.load (K1 2) (.t 110)),
 O 112 (.faddr 9 (.t 17)),
 O 113 (.load (K1 2) (.t 112)),
 O 114 (.call 0 27 [(.t 109), (.t 111), (.t 113)]),
 O 107 (.mov (.t 114)),
 O 115 (.ext (.t 107) 0),
 O 116 (.ext (.t 107) 1),
 O 117 (.ext (.t 107) 2),
 O 118 (.faddr 4 (.t 19)),
 E (.store K0 (.t 118) (.t 115)),
 O 119 (.faddr 9 (.t 19)),
 E (.store (K1 2) (.t 119) (.t 116)),
 O 14 (.mov (.t 117))] [119, 118, 117, 116, 115, 107, 114, 113, 17, 112, 111, 16, 110, 109, 108]) (
 sq (.reg [
 O 120 (.mov (.t 14)),
 O 121 (.bin .neq (.t 120) (.c (I 0)))] [120]) (
 .cond (.t 121) (sq (.reg [
 O 122 (.agg [(I 0), (I 0), (I 0), (I 0), (I 0), (I 0), (I 0), (I 0), (.i .u64 0), (I 0), (.i .u64 0)] []),
 O 123 (.mov (.t 14)),
 E (.store (K1 11) (.t 8) (.t 122)),
 O 9 (.mov (.t 123))] [14, 123, 122]) (
 .ret))
 (.skip)))) (
 sq (sq (.reg [
 O 125 (.faddr 3 (.t 19)),
 O 126 (.load K0 (.t 125)),
 O 127 (.faddr 6 (.t 15)),
 O 128 (.load K0 (.t 127)),
 O 129 (.call 0 28 [(.t 126), (.t 128), (.c (I 1))]),
 O 124 (.mov (.t 129)),
 O 130 (.ext (.t 124) 0),
 O 131 (.ext (.t 124) 1),
 O 132 (.faddr 5 (.t 19)),
 E (.store K0 (.t 132) (.t 130)),
 O 14 (.mov (.t 131))] [132, 131, 130, 124, 129, 128, 15, 127, 126, 125]) (
 sq (.reg [
 O 133 (.mov (.t 14)),
 O 134 (.bin .neq (.t 133) (.c (I 0)))] [133]) (
 .cond (.t 134) (sq (.reg [
 O 135 (.agg [(I 0), (I 0), (I 0), (I 0), (I 0), (I 0), (I 0), (I 0), (.i .u64 0), (I 0), (.i .u64 0)] []),
 O 136 (.mov (.t 14)),
 E (.store (K1 11) (.t 8) (.t 135)),
 O 9 (.mov (.t 136))] [14, 136, 135]) (
 .ret))
 (.skip)))) (
 sq (.reg [
 O 137 (.load (K1 11) (.t 19)),
 E (.store (K1 11) (.t 8) (.t 137)),
 O 9 (.mov (.c (I 0)))] [19, 137]) (
 .ret)))))))))))))))))⟩
def F21 : PF := ⟨2, [.t 4],
 sq (.reg [
 O 3 (.box (K1 7) (.t 1)),
 O 4 (.mov (.c (I 0)))] [4, 1]) (
 sq (sq (.reg [
 O 8 (.mov (.t 0)),
 O 9 (.faddr 0 (.t 3)),
 O 10 (.load K0 (.t 9)),
 O 11 (.call 0 26 [(.t 8), (.t 10)]),
 O 7 (.mov (.t 11)),
 O 12 (.ext (.t 7) 0),
 O 13 (.ext (.t 7) 1),
 O 5 (.alloc (K1 11) (.a [(I 0), (I 0), (I 0), (I 0), (I 0), (I 0), (I 0), (I 0), (.i .u64 0), (I 0), (.i .u64 0)])),
 E (.store (K1 11) (.t 5) (.t 12)),
 O 6 (.mov (.t 13))] [13, 12, 7, 11, 10, 9, 0, 8]) (
 sq (.reg [
 O 14 (.mov (.t 6))] [6]) (
 .cond (.t 14) (sq (.reg [
 O 15 (.faddr 2 (.t 5)),
 O 16 (.load K0 (.t 15)),
 O 17 (.bin .add (.t 16) (.c (I 1))),
 O 4 (.mov (.t 17))] [17, 16, 5, 15]) (
 .ret))
 (.skip)))) (
 sq (.reg [
 O 18 (.faddr 1 (.t 3)),
 O 19 (.load K0 (.t 18)),
 O 4 (.mov (.t 19))] [19, 3, 18]) (
 .ret)))⟩
def F22 : PF := ⟨1, [.t 2],
 sq (.reg [
 O 2 (.mov (.c (.b false)))] [2]) (
 sq (.reg [
 O 3 (.mov (.t 0)),
 O 4 (.bin .geq (.t 3) (.c (I 0))),
 O 5 (.mov (.t 4)),
 OG 6 5 true (.mov (.t 0)),
 OG 7 5 true (.bin .leq (.t 6) (.c (I 73048))),
 O 8 (.pick (.t 5) (.t 7) (.c (.b false))),
 O 2 (.mov (.t 8))] [8, 7, 6, 5, 4, 0, 3]) (
 .ret))⟩
def L23_0 : PC :=
 sq (sq (.reg [
 O 51 (.mov (.t 14)),
 O 52 (.mov (.t 3)),
 O 53 (.bin .leq (.t 51) (.t 52))] [52, 51]) (
 .cond (.t 53) (.skip)
 (.exit 0))) (
 sq (.block 1 (
 .reg [
 O 56 (.mov (.t 13)),
 O 57 (.mov (.t 12)),
 O 58 (.mov (.t 14)),
 O 59 (.callv (.t 57) [(.t 58)]),
 O 60 (.bsl (K1 7) (.a [(I 0), (I 0), (I 0), (I 0), (.i .u64 0), (I 0), (.i .u64 0)]) 1 [(0, (.t 59))]),
 O 61 (.app (K1 7) 56 (.t 56) (.t 60)),
 O 13 (.mov (.t 61))] [61, 60, 59, 58, 57, 56])) (
 .reg [
 O 54 (.mov (.t 14)),
 O 55 (.bin .add (.t 54) (.c (I 1))),
 O 14 (.mov (.t 55))] [55, 54]))
def F23 : PF := ⟨4, [.t 8, .t 9],
 sq (.reg [
 O 4 (.box (K1 22) (.t 0)),
 O 8 (.mov (.c (.l (K1 7) [] true))),
 O 9 (.mov (.c (I 0)))] [9, 8, 0]) (
 sq (sq (.reg [
 O 16 (.load (K1 22) (.t 4)),
 O 17 (.mov (.t 1)),
 O 18 (.call 0 12 [(.t 16), (.t 17)]),
 O 15 (.mov (.t 18)),
 O 19 (.ext (.t 15) 0),
 O 20 (.ext (.t 15) 1),
 O 10 (.alloc (K1 7) (.a [(I 0), (I 0), (I 0), (I 0), (.s []), (.s []), (.s [])])),
 E (.store (K1 7) (.t 10) (.t 19)),
 O 11 (.mov (.t 20))] [10, 20, 19, 15, 18, 17, 16]) (
 sq (.reg [
 O 21 (.mov (.t 11)),
 O 22 (.un .not (.t 21))] [11, 21]) (
 .cond (.t 22) (sq (.reg [
 O 8 (.mov (.c (.l (K1 7) [] true))),
 O 9 (.mov (.c (I 11)))] []) (
 .ret))
 (.skip)))) (
 sq (sq (.reg [
 O 23 (.mov (.t 2)),
 O 24 (.call 0 22 [(.t 23)]),
 O 25 (.un .not (.t 24)),
 O 26 (.mov (.t 25)),
 OG 27 26 false (.mov (.t 3)),
 OG 28 26 false (.call 0 22 [(.t 27)]),
 OG 29 26 false (.un .not (.t 28)),
 O 30 (.pick (.t 26) (.c (.b true)) (.t 29)),
 O 31 (.mov (.t 30)),
 OG 32 31 false (.mov (.t 2)),
 OG 33 31 false (.mov (.t 3)),
 OG 34 31 false (.bin .gtr (.t 32) (.t 33)),
 O 35 (.pick (.t 31) (.c (.b true)) (.t 34)),
 O 36 (.mov (.t 35)),
 OG 37 36 false (.mov (.t 3)),
 OG 38 36 false (.mov (.t 2)),
 OG 39 36 false (.bin .sub (.t 37) (.t 38)),
 OG 40 36 false (.bin .geq (.t 39) (.c (I 4000))),
 O 41 (.pick (.t 36) (.c (.b true)) (.t 40))] [40, 39, 38, 37, 36, 35, 34, 33, 32, 31, 30, 29, 28, 27, 26, 25, 24, 23]) (
 .cond (.t 41) (sq (.reg [
 O 8 (.mov (.c (.l (K1 7) [] true))),
 O 9 (.mov (.c (I 1)))] []) (
 .ret))
 (.skip))) (
 sq (.reg [
 O 42 (.load (K1 22) (.t 4)),
 O 43 (.mov (.t 1)),
 O 44 (.call 2 29 [(.t 42), (.t 43)]),
 O 12 (.mov (.t 44))] [44, 1, 43, 4, 42]) (
 sq (.reg [
 O 45 (.mov (.t 3)),
 O 46 (.mov (.t 2)),
 O 47 (.bin .sub (.t 45) (.t 46)),
 O 48 (.bin .add (.t 47) (.c (I 1))),
 O 49 (.mksl (K1 7) 56 (.a [(I 0), (I 0), (I 0), (I 0), (.i .u64 0), (I 0), (.i .u64 0)]) (.c (I 0)) (.t 48)),
 O 13 (.mov (.t 49))] [49, 48, 47, 46, 45]) (
 sq (sq (.reg [
 O 50 (.mov (.t 2)),
 O 14 (.mov (.t 50))] [2, 50]) (
 .block 0 (
 .loop [3, 12, 13, 14] L23_0))) (
 sq (.reg [
 O 62 (.mov (.t 13)),
 O 8 (.mov (.t 62)),
 O 9 (.mov (.c (I 0)))] [13, 62]) (
 .ret)))))))⟩
def F24 : PF := ⟨3, [.c 6 (K1 19), .t 7],
 sq (.reg [
 O 3 (.box (K1 22) (.t 0)),
 O 6 (.alloc (K1 19) (.a [(.s []), (.s []), (.s []), (I 0), (I 0), (I 0), (I 0), (.l (K1 2) [] true), (.b false), (I 0), (I 0), (.b false), (.l (K1 2) [] true), (.b false), (I 0), (I 0), (.b false), (.l (K1 10) [] true), (.l (K1 6) [] true)])),
 O 7 (.mov (.c (.b false)))] [7, 0]) (
 sq (.reg [
 O 11 (.load (K1 22) (.t 3)),
 O 12 (.mov (.t 1)),
 O 13 (.call 0 12 [(.t 11), (.t 12)]),
 O 10 (.mov (.t 13)),
 O 14 (.ext (.t 10) 0),
 O 15 (.ext (.t 10) 1),
 O 8 (.alloc (K1 7) (.a [(I 0), (I 0), (I 0), (I 0), (.s []), (.s []), (.s [])])),
 E (.store (K1 7) (.t 8) (.t 14)),
 O 9 (.mov (.t 15))] [15, 14, 10, 13, 1, 12, 11]) (
 sq (sq (.reg [
 O 16 (.mov (.t 9)),
 O 17 (.un .not (.t 16))] [9, 16]) (
 .cond (.t 17) (sq (.reg [
 O 18 (.agg [(.s []), (.s []), (.s []), (I 0), (I 0), (I 0), (I 0), (.l (K1 2) [] true), (.b false), (I 0), (I 0), (.b false), (.l (K1 2) [] true), (.b false), (I 0), (I 0), (.b false), (.l (K1 10) [] true), (.l (K1 6) [] true)] []),
 E (.store (K1 19) (.t 6) (.t 18)),
 O 7 (.mov (.c (.b false)))] [18]) (
 .ret))
 (.skip))) (
 sq (.reg [
 O 19 (.faddr 17 (.t 3)),
 O 20 (.load K0 (.t 19)),
 O 21 (.faddr 5 (.t 8)),
 O 22 (.load K0 (.t 21)),
 O 23 (.mov (.t 2)),
 O 24 (.call 0 30 [(.t 20), (.t 22), (.t 23)]),
 O 25 (.ext (.t 24) 0),
 O 26 (.ext (.t 24) 1),
 E (.store (K1 19) (.t 6) (.t 25)),
 O 7 (.mov (.t 26))] [26, 25, 24, 2, 23, 22, 8, 21, 20, 3, 19]) (
 .ret))))⟩
def L25_0 : PC :=
 sq (.reg [
 O 16 (.bin .lss (.t 15) (.t 14))] []) (
 sq (.cond (.t 16) (.skip)
 (.exit 0)) (
 sq (.block 1 (
 sq (.reg [
 O 17 (.iaddr (K1 7) (.t 13) (.t 15)),
 O 18 (.load (K1 7) (.t 17)),
 O 8 (.alloc (K1 7) (.a [(I 0), (I 0), (I 0), (I 0), (.i .u64 0), (I 0), (.i .u64 0)])),
 E (.store (K1 7) (.t 8) (.t 18))] [18, 17]) (
 sq (.reg [
 O 20 (.load (K1 2) (.t 5)),
 O 21 (.faddr 3 (.t 8)),
 O 22 (.load (K1 2) (.t 21)),
 O 23 (.call 0 31 [(.t 20), (.t 22)]),
 O 19 (.mov (.t 23)),
 O 24 (.ext (.t 19) 0),
 O 25 (.ext (.t 19) 1),
 O 9 (.alloc (K1 2) (.a [(I 0), (.i .u64 0)])),
 E (.store (K1 2) (.t 9) (.t 24)),
 O 10 (.mov (.t 25))] [25, 24, 19, 23, 22, 21, 20]) (
 sq (.reg [
 O 27 (.load (K1 2) (.t 6)),
 O 28 (.faddr 5 (.t 8)),
 O 29 (.load (K1 2) (.t 28)),
 O 30 (.call 0 31 [(.t 27), (.t 29)]),
 O 26 (.mov (.t 30)),
 O 31 (.ext (.t 26) 0),
 O 32 (.ext (.t 26) 1),
 O 11 (.alloc (K1 2) (.a [(I 0), (.i .u64 0)])),
 E (.store (K1 2) (.t 11) (.t 31)),
 O 12 (.mov (.t 32))] [32, 31, 26, 30, 29, 8, 28, 27]) (
 sq (sq (.reg [
 O 33 (.mov (.t 10)),
 O 34 (.bin .neq (.t 33) (.c (I 0))),
 O 35 (.mov (.t 34)),
 OG 36 35 false (.mov (.t 12)),
 OG 37 35 false (.bin .neq (.t 36) (.c (I 0))),
 O 38 (.pick (.t 35) (.c (.b true)) (.t 37))] [37, 12, 36, 35, 34, 10, 33]) (
 .cond (.t 38) (sq (.reg [
 O 39 (.agg [(I 0), (.i .u64 0)] []),
 O 40 (.agg [(I 0), (.i .u64 0)] []),
 E (.store (K1 2) (.t 2) (.t 39)),
 E (.store (K1 2) (.t 3) (.t 40)),
 O 4 (.mov (.c (I 6)))] [40, 39]) (
 .ret))
 (.skip))) (
 .regD [
 O 41 (.load (K1 2) (.t 9)),
 O 42 (.load (K1 2) (.t 11)),
 E (.store (K1 2) (.t 5) (.t 41)),
 E (.store (K1 2) (.t 6) (.t 42))] [0, 0, 1, 7] [11, 42, 9, 41])))))) (
 .reg [
 O 43 (.bin .add (.t 15) (.c (I 1))),
 O 15 (.mov (.t 43))] [43])))
def F25 : PF := ⟨1, [.c 2 (K1 2), .c 3 (K1 2), .t 4],
 sq (.reg [
 O 2 (.alloc (K1 2) (.a [(I 0), (.i .u64 0)])),
 O 3 (.alloc (K1 2) (.a [(I 0), (.i .u64 0)])),
 O 4 (.mov (.c (I 0)))] [4]) (
 sq (.reg [
 O 5 (.alloc (K1 2) (.a [(I 0), (.i .u64 0)])),
 O 6 (.alloc (K1 2) (.a [(I 0), (.i .u64 0)]))] []) (
 sq (sq (.reg [
 O 13 (.mov (.t 0)),
 O 14 (.len false (.t 13)),
 O 15 (.mov (.c (I 0)))] [0]) (
 .block 0 (
 .loop [2, 3, 5, 6, 13, 14, 15] L25_0))) (
 sq (.regD [
 O 44 (.load (K1 2) (.t 5)),
 O 45 (.load (K1 2) (.t 6)),
 E (.store (K1 2) (.t 2) (.t 44)),
 E (.store (K1 2) (.t 3) (.t 45)),
 O 4 (.mov (.c (I 0)))] [0, 0, 1, 7, 15] [6, 45, 5, 44]) (
 .ret))))⟩
def L26_0 : PC :=
 sq (sq (.reg [
 O 10 (.mov (.t 6)),
 O 11 (.bin .geq (.t 10) (.c (I 0)))] [10]) (
 .cond (.t 11) (.skip)
 (.exit 0))) (
 sq (.block 1 (
 sq (.reg [
 O 14 (.mov (.t 0)),
 O 15 (.mov (.t 6)),
 O 16 (.iaddr (K1 11) (.t 14) (.t 15)),
 O 17 (.faddr 0 (.t 16)),
 O 18 (.load K0 (.t 17)),
 O 19 (.mov (.t 1)),
 O 20 (.bin .eql (.t 18) (.t 19))] [19, 18, 17, 16, 15, 14]) (
 .cond (.t 20) (sq (.reg [
 O 21 (.mov (.t 0)),
 O 22 (.mov (.t 6)),
 O 23 (.iaddr (K1 11) (.t 21) (.t 22)),
 O 24 (.load (K1 11) (.t 23)),
 E (.store (K1 11) (.t 4) (.t 24)),
 O 5 (.mov (.c (.b true)))] [24, 23, 6, 22, 0, 21]) (
 .ret))
 (.skip)))) (
 .reg [
 O 12 (.mov (.t 6)),
 O 13 (.bin .sub (.t 12) (.c (I 1))),
 O 6 (.mov (.t 13))] [13, 12]))
def F26 : PF := ⟨2, [.c 4 (K1 11), .t 5],
 sq (.reg [
 O 4 (.alloc (K1 11) (.a [(I 0), (I 0), (I 0), (I 0), (I 0), (I 0), (I 0), (I 0), (.i .u64 0), (I 0), (.i .u64 0)])),
 O 5 (.mov (.c (.b false)))] [5]) (
 sq (sq (.reg [
 O 7 (.mov (.t 0)),
 O 8 (.len false (.t 7)),
 O 9 (.bin .sub (.t 8) (.c (I 1))),
 O 6 (.mov (.t 9))] [9, 8, 7]) (
 .block 0 (
 .loop [0, 1, 4, 6] L26_0))) (
 sq (.reg [
 O 25 (.agg [(I 0), (I 0), (I 0), (I 0), (I 0), (I 0), (I 0), (I 0), (.i .u64 0), (I 0), (.i .u64 0)] []),
 E (.store (K1 11) (.t 4) (.t 25)),
 O 5 (.mov (.c (.b false)))] [25]) (
 .ret)))⟩
def F27 : PF := ⟨3, [.t 6, .c 7 (K1 2), .t 8],
 sq (.reg [
 O 3 (.box (K1 5) (.t 0)),
 O 4 (.box (K1 2) (.t 1)),
 O 5 (.box (K1 2) (.t 2)),
 O 6 (.mov (.c (I 0))),
 O 7 (.alloc (K1 2) (.a [(I 0), (.i .u64 0)])),
 O 8 (.mov (.c (I 0)))] [8, 6, 2, 1, 0]) (
 sq (sq (.reg [
 O 14 (.faddr 4 (.t 3)),
 O 15 (.load K0 (.t 14))] [14]) (
 .cond (.t 15) (sq (.reg [
 O 17 (.load (K1 2) (.t 4)),
 O 18 (.load (K1 2) (.t 5)),
 O 19 (.call 0 31 [(.t 17), (.t 18)]),
 O 16 (.mov (.t 19)),
 O 20 (.ext (.t 16) 0),
 O 21 (.ext (.t 16) 1),
 O 9 (.alloc (K1 2) (.a [(I 0), (.i .u64 0)])),
 E (.store (K1 2) (.t 9) (.t 20)),
 O 10 (.mov (.t 21))] [21, 20, 16, 19, 5, 18, 17]) (
 sq (sq (.reg [
 O 22 (.mov (.t 10)),
 O 23 (.bin .neq (.t 22) (.c (I 0)))] [22]) (
 .cond (.t 23) (sq (.reg [
 O 24 (.agg [(I 0), (.i .u64 0)] []),
 O 25 (.mov (.t 10)),
 O 6 (.mov (.c (I 0))),
 E (.store (K1 2) (.t 7) (.t 24)),
 O 8 (.mov (.t 25))] [10, 25, 24]) (
 .ret))
 (.skip))) (
 .reg [
 O 26 (.load (K1 2) (.t 9)),
 E (.store (K1 2) (.t 4) (.t 26))] [9, 26])))
 (.skip))) (
 sq (.regD [
 O 27 (.load (K1 2) (.t 4)),
 O 12 (.alloc (K1 2) (.a [(I 0), (.i .u64 0)])),
 O 11 (.mov (.c (I 0))),
 E (.store (K1 2) (.t 12) (.t 27))] [0, 0, 2, 7] [27]) (
 sq (sq (.reg [
 O 28 (.load (K1 2) (.t 4)),
 O 29 (.agg [(I 0), (.i .u64 0)] []),
 O 30 (.call 0 32 [(.t 28), (.t 29)]),
 O 31 (.bin .geq (.t 30) (.c (I 0)))] [30, 29, 28]) (
 .cond (.t 31) (sq (.reg [
 O 13 (.mov (.c (I 0)))] [13]) (
 sq (.reg [
 O 33 (.load (K1 2) (.t 4)),
 O 34 (.faddr 3 (.t 3)),
 O 35 (.load K0 (.t 34)),
 O 36 (.call 0 33 [(.t 33), (.t 35)]),
 O 32 (.mov (.t 36)),
 O 37 (.ext (.t 32) 0),
 O 38 (.ext (.t 32) 1),
 O 39 (.ext (.t 32) 2),
 O 11 (.mov (.t 37)),
 E (.store (K1 2) (.t 12) (.t 38)),
 O 13 (.mov (.t 39))] [39, 38, 37, 32, 36, 35, 34, 4, 33]) (
 sq (.reg [
 O 40 (.mov (.t 13)),
 O 41 (.bin .neq (.t 40) (.c (I 0)))] [40]) (
 .cond (.t 41) (sq (.reg [
 O 42 (.agg [(I 0), (.i .u64 0)] []),
 O 43 (.mov (.t 13)),
 O 6 (.mov (.c (I 0))),
 E (.store (K1 2) (.t 7) (.t 42)),
 O 8 (.mov (.t 43))] [13, 43, 42]) (
 .ret))
 (.skip)))))
 (.skip))) (
 sq (sq (.reg [
 O 44 (.faddr 4 (.t 3)),
 O 45 (.load K0 (.t 44)),
 O 46 (.un .not (.t 45))] [45, 3, 44]) (
 .cond (.t 46) (.reg [
 O 47 (.agg [(I 0), (.i .u64 0)] []),
 E (.store (K1 2) (.t 12) (.t 47))] [47])
 (.skip))) (
 sq (.regD [
 O 48 (.mov (.t 11)),
 O 49 (.load (K1 2) (.t 12)),
 O 6 (.mov (.t 48)),
 E (.store (K1 2) (.t 7) (.t 49)),
 O 8 (.mov (.c (I 0)))] [0, 0, 1, 7, 15] [12, 49, 11, 48]) (
 .ret))))))⟩
def F28 : PF := ⟨3, [.t 6, .t 7],
 sq (.reg [
 O 6 (.mov (.c (I 0))),
 O 7 (.mov (.c (I 0)))] [7, 6]) (
 sq (sq (.reg [
 O 8 (.mov (.t 0)),
 O 9 (.call 0 34 [(.t 8)]),
 O 10 (.un .not (.t 9)),
 O 11 (.mov (.t 10)),
 OG 12 11 false (.mov (.t 1)),
 OG 13 11 false (.bin .lss (.t 12) (.c (I 0))),
 O 14 (.pick (.t 11) (.c (.b true)) (.t 13)),
 O 15 (.mov (.t 14)),
 OG 16 15 false (.mov (.t 1)),
 OG 17 15 false (.bin .gtr (.t 16) (.c (I 1000000))),
 O 18 (.pick (.t 15) (.c (.b true)) (.t 17)),
 O 19 (.mov (.t 18)),
 OG 20 19 false (.mov (.t 2)),
 OG 21 19 false (.call 0 35 [(.t 20)]),
 OG 22 19 false (.un .not (.t 21)),
 O 23 (.pick (.t 19) (.c (.b true)) (.t 22))] [22, 21, 20, 19, 18, 17, 16, 15, 14, 13, 12, 11, 10, 9, 8]) (
 .cond (.t 23) (sq (.reg [
 O 6 (.mov (.c (I 0))),
 O 7 (.mov (.c (I 1)))] []) (
 .ret))
 (.skip))) (
 sq (.reg [
 O 24 (.mov (.t 0)),
 O 25 (.mov (.t 1)),
 O 26 (.call 0 37 [(.t 24), (.t 25)]),
 O 27 (.mov (.t 2)),
 O 28 (.call 0 36 [(.t 26), (.c (I 1000000)), (.t 27)]),
 O 29 (.ext (.t 28) 0),
 O 30 (.ext (.t 28) 1),
 O 6 (.mov (.t 29)),
 O 7 (.mov (.t 30))] [30, 29, 28, 2, 27, 26, 1, 25, 0, 24]) (
 .ret)))⟩
def F29 : PF := ⟨2, [.t 4],
 sq (.reg [
 O 2 (.box (K1 22) (.t 0)),
 O 3 (.box K0 (.t 1)),
 O 4 (.mov (.c .nf))] [4, 1, 0]) (
 sq (.reg [
 O 5 (.mkf 38 [(.t 3), (.t 2)]),
 O 4 (.mov (.t 5))] [2, 3, 5]) (
 .ret))⟩
def L30_0 : PC :=
 sq (.reg [
 O 14 (.bin .lss (.t 13) (.t 12))] []) (
 sq (.cond (.t 14) (.skip)
 (.exit 0)) (
 sq (.block 1 (
 sq (.reg [
 O 15 (.mov (.t 13)),
 O 16 (.iaddr (K1 19) (.t 11) (.t 13)),
 O 17 (.load (K1 19) (.t 16)),
 O 10 (.alloc (K1 19) (.a [(.s []), (.s []), (.s []), (I 0), (I 0), (I 0), (I 0), (.l (K1 2) [] true), (.b false), (I 0), (I 0), (.b false), (.l (K1 2) [] true), (.b false), (I 0), (I 0), (.b false), (.l (K1 10) [] true), (.l (K1 6) [] true)])),
 O 9 (.mov (.t 15)),
 E (.store (K1 19) (.t 10) (.t 17))] [17, 16, 15]) (
 sq (.regD [
 O 18 (.faddr 0 (.t 10)),
 O 19 (.load K0 (.t 18)),
 O 20 (.mov (.t 1)),
 O 21 (.bin .eql (.t 19) (.t 20)),
 O 22 (.mov (.t 21)),
 OG 23 22 true (.faddr 3 (.t 10)),
 OG 24 22 true (.load K0 (.t 23)),
 OG 25 22 true (.mov (.t 2)),
 OG 26 22 true (.bin .leq (.t 24) (.t 25)),
 O 27 (.pick (.t 22) (.t 26) (.c (.b false))),
 O 28 (.mov (.t 27)),
 OG 29 28 true (.mov (.t 8)),
 OG 30 28 true (.bin .lss (.t 29) (.c (I 0))),
 OG 31 28 true (.mov (.t 30)),
 OG 32 31 false (.faddr 3 (.t 10)),
 OG 33 31 false (.load K0 (.t 32)),
 OG 34 31 false (.mov (.t 0)),
 OG 35 31 false (.mov (.t 8)),
 OG 36 31 false (.iaddr (K1 19) (.t 34) (.t 35)),
 OG 37 31 false (.faddr 3 (.t 36)),
 OG 38 31 false (.load K0 (.t 37)),
 OG 39 31 false (.bin .gtr (.t 33) (.t 38)),
 OG 40 28 true (.pick (.t 31) (.c (.b true)) (.t 39)),
 O 41 (.pick (.t 28) (.t 40) (.c (.b false)))] [0, 1, 0, 7, 15, 31, 63, 31, 255, 511, 1023, 2047, 4095, 8191, 16383, 32767, 16383, 16383, 212991, 475135, 999423, 2097151, 4194303, 8388607] [40, 39, 38, 37, 36, 35, 34, 33, 32, 31, 30, 29, 28, 27, 26, 25, 24, 23, 22, 21, 20, 19, 10, 18]) (
 .cond (.t 41) (.reg [
 O 42 (.mov (.t 9)),
 O 8 (.mov (.t 42))] [9, 42])
 (.skip))))) (
 .reg [
 O 43 (.bin .add (.t 13) (.c (I 1))),
 O 13 (.mov (.t 43))] [43])))
def F30 : PF := ⟨3, [.c 6 (K1 19), .t 7],
 sq (.reg [
 O 6 (.alloc (K1 19) (.a [(.s []), (.s []), (.s []), (I 0), (I 0), (I 0), (I 0), (.l (K1 2) [] true), (.b false), (I 0), (I 0), (.b false), (.l (K1 2) [] true), (.b false), (I 0), (I 0), (.b false), (.l (K1 10) [] true), (.l (K1 6) [] true)])),
 O 7 (.mov (.c (.b false)))] [7]) (
 sq (.reg [
 O 8 (.mov (.c (I (-1))))] []) (
 sq (sq (.reg [
 O 11 (.mov (.t 0)),
 O 12 (.len false (.t 11)),
 O 13 (.mov (.c (I 0)))] []) (
 .block 0 (
 .loop [0, 1, 2, 6, 8, 11, 12, 13] L30_0))) (
 sq (sq (.reg [
 O 44 (.mov (.t 8)),
 O 45 (.bin .lss (.t 44) (.c (I 0)))] [44]) (
 .cond (.t 45) (sq (.reg [
 O 46 (.agg [(.s []), (.s []), (.s []), (I 0), (I 0), (I 0), (I 0), (.l (K1 2) [] true), (.b false), (I 0), (I 0), (.b false), (.l (K1 2) [] true), (.b false), (I 0), (I 0), (.b false), (.l (K1 10) [] true), (.l (K1 6) [] true)] []),
 E (.store (K1 19) (.t 6) (.t 46)),
 O 7 (.mov (.c (.b false)))] [46]) (
 .ret))
 (.skip))) (
 sq (.reg [
 O 47 (.mov (.t 0)),
 O 48 (.mov (.t 8)),
 O 49 (.iaddr (K1 19) (.t 47) (.t 48)),
 O 50 (.load (K1 19) (.t 49)),
 E (.store (K1 19) (.t 6) (.t 50)),
 O 7 (.mov (.c (.b true)))] [50, 49, 8, 48, 0, 47]) (
 .ret)))))⟩
def F31 : PF := ⟨2, [.c 4 (K1 2), .t 5],
 sq (.reg [
 O 2 (.box (K1 2) (.t 0)),
 O 3 (.box (K1 2) (.t 1)),
 O 4 (.alloc (K1 2) (.a [(I 0), (.i .u64 0)])),
 O 5 (.mov (.c (I 0)))] [5, 1, 0]) (
 sq (.reg [
 O 10 (.faddr 1 (.t 2)),
 O 11 (.load K0 (.t 10)),
 O 12 (.faddr 1 (.t 3)),
 O 13 (.load K0 (.t 12)),
 O 14 (.prim 0 [(.t 11), (.t 13), (.c (.i .u64 0))]),
 O 9 (.mov (.t 14)),
 O 15 (.ext (.t 9) 0),
 O 16 (.ext (.t 9) 1),
 O 6 (.mov (.t 15)),
 O 7 (.mov (.t 16))] [16, 15, 9, 14, 13, 12, 11, 10]) (
 sq (.reg [
 O 17 (.faddr 0 (.t 2)),
 O 18 (.load K0 (.t 17)),
 O 19 (.faddr 0 (.t 3)),
 O 20 (.load K0 (.t 19)),
 O 21 (.bin .add (.t 18) (.t 20)),
 O 22 (.mov (.t 7)),
 O 23 (.conv .i64 (.t 22)),
 O 24 (.bin .add (.t 21) (.t 23)),
 O 8 (.mov (.t 24))] [24, 23, 7, 22, 21, 20, 19, 18, 17]) (
 sq (sq (.reg [
 O 25 (.faddr 0 (.t 2)),
 O 26 (.load K0 (.t 25)),
 O 27 (.bin .lss (.t 26) (.c (I 0))),
 O 28 (.faddr 0 (.t 3)),
 O 29 (.load K0 (.t 28)),
 O 30 (.bin .lss (.t 29) (.c (I 0))),
 O 31 (.eqb false (.t 27) (.t 30)),
 O 32 (.mov (.t 31)),
 OG 33 32 true (.mov (.t 8)),
 OG 34 32 true (.bin .lss (.t 33) (.c (I 0))),
 OG 35 32 true (.faddr 0 (.t 2)),
 OG 36 32 true (.load K0 (.t 35)),
 OG 37 32 true (.bin .lss (.t 36) (.c (I 0))),
 OG 38 32 true (.eqb true (.t 34) (.t 37)),
 O 39 (.pick (.t 32) (.t 38) (.c (.b false)))] [38, 37, 36, 35, 34, 33, 32, 31, 30, 29, 3, 28, 27, 26, 2, 25]) (
 .cond (.t 39) (sq (.reg [
 O 40 (.agg [(I 0), (.i .u64 0)] []),
 E (.store (K1 2) (.t 4) (.t 40)),
 O 5 (.mov (.c (I 6)))] [40]) (
 .ret))
 (.skip))) (
 sq (.reg [
 O 41 (.mov (.t 8)),
 O 42 (.mov (.t 6)),
 O 43 (.agg [(I 0), (.i .u64 0)] [(0, K0, (.t 41)), (1, K0, (.t 42))]),
 E (.store (K1 2) (.t 4) (.t 43)),
 O 5 (.mov (.c (I 0)))] [43, 6, 42, 8, 41]) (
 .ret)))))⟩
def F32 : PF := ⟨2, [.t 4],
 sq (.reg [
 O 2 (.box (K1 2) (.t 0)),
 O 3 (.box (K1 2) (.t 1)),
 O 4 (.mov (.c (I 0)))] [4, 1, 0]) (
 sq (.block 0 (
 sq (.reg [
 O 6 (.load (K1 2) (.t 2)),
 O 7 (.load (K1 2) (.t 3)),
 O 8 (.eqv false [1, 1] (.t 6) (.t 7)),
 O 5 (.mov (.t 8))] [8, 7, 6]) (
 .cond (.t 5) (sq (.reg [
 O 4 (.mov (.c (I 0)))] []) (
 .ret))
 (sq (.reg [
 O 10 (.faddr 0 (.t 2)),
 O 11 (.load K0 (.t 10)),
 O 12 (.faddr 0 (.t 3)),
 O 13 (.load K0 (.t 12)),
 O 14 (.bin .lss (.t 11) (.t 13)),
 O 15 (.mov (.t 14)),
 OG 16 15 false (.faddr 0 (.t 2)),
 OG 17 15 false (.load K0 (.t 16)),
 OG 18 15 false (.faddr 0 (.t 3)),
 OG 19 15 false (.load K0 (.t 18)),
 OG 20 15 false (.bin .eql (.t 17) (.t 19)),
 OG 21 15 false (.mov (.t 20)),
 OG 22 21 true (.faddr 1 (.t 2)),
 OG 23 21 true (.load K0 (.t 22)),
 OG 24 21 true (.faddr 1 (.t 3)),
 OG 25 21 true (.load K0 (.t 24)),
 OG 26 21 true (.bin .lss (.t 23) (.t 25)),
 OG 27 15 false (.pick (.t 21) (.t 26) (.c (.b false))),
 O 28 (.pick (.t 15) (.c (.b true)) (.t 27)),
 O 9 (.mov (.t 28))] [28, 27, 26, 25, 24, 23, 22, 21, 20, 19, 18, 17, 16, 15, 14, 13, 3, 12, 11, 2, 10]) (
 .cond (.t 9) (sq (.reg [
 O 4 (.mov (.c (I (-1))))] []) (
 .ret))
 (.skip)))))) (
 sq (.reg [
 O 4 (.mov (.c (I 1)))] []) (
 .ret)))⟩
def F33 : PF := ⟨2, [.t 4, .c 5 (K1 2), .t 6],
 sq (.reg [
 O 2 (.box (K1 2) (.t 0)),
 O 4 (.mov (.c (I 0))),
 O 5 (.alloc (K1 2) (.a [(I 0), (.i .u64 0)])),
 O 6 (.mov (.c (I 0)))] [6, 4, 0]) (
 sq (.reg [
 O 12 (.load (K1 2) (.t 2)),
 O 13 (.mov (.t 1)),
 O 14 (.call 0 36 [(.t 12), (.c (I 1603080000000)), (.t 13)]),
 O 11 (.mov (.t 14)),
 O 15 (.ext (.t 11) 0),
 O 16 (.ext (.t 11) 1),
 O 7 (.mov (.t 15)),
 O 8 (.mov (.t 16))] [16, 15, 11, 14, 1, 13, 12]) (
 sq (sq (.reg [
 O 17 (.mov (.t 8)),
 O 18 (.bin .neq (.t 17) (.c (I 0)))] [17]) (
 .cond (.t 18) (sq (.reg [
 O 19 (.agg [(I 0), (.i .u64 0)] []),
 O 20 (.mov (.t 8)),
 O 4 (.mov (.c (I 0))),
 E (.store (K1 2) (.t 5) (.t 19)),
 O 6 (.mov (.t 20))] [8, 20, 19]) (
 .ret))
 (.skip))) (
 sq (sq (.reg [
 O 21 (.mov (.t 7)),
 O 22 (.call 0 34 [(.t 21)]),
 O 23 (.un .not (.t 22))] [22, 21]) (
 .cond (.t 23) (sq (.reg [
 O 24 (.agg [(I 0), (.i .u64 0)] []),
 O 4 (.mov (.c (I 0))),
 E (.store (K1 2) (.t 5) (.t 24)),
 O 6 (.mov (.c (I 6)))] [24]) (
 .ret))
 (.skip))) (
 sq (.regD [
 O 26 (.load (K1 2) (.t 2)),
 O 27 (.mov (.t 7)),
 O 28 (.call 0 37 [(.t 27), (.c (I 1603080000000))]),
 O 29 (.call 0 42 [(.t 26), (.t 28)]),
 O 25 (.mov (.t 29)),
 O 30 (.ext (.t 25) 0),
 O 31 (.ext (.t 25) 1),
 O 9 (.alloc (K1 2) (.a [(I 0), (.i .u64 0)])),
 E (.store (K1 2) (.t 9) (.t 30)),
 O 10 (.mov (.t 31))] [0, 0, 2, 7, 15, 31, 31, 0, 191, 511] [10, 31, 30, 25, 29, 28, 27, 2, 26]) (
 sq (.regD [
 O 32 (.mov (.t 7)),
 O 33 (.load (K1 2) (.t 9)),
 O 4 (.mov (.t 32)),
 E (.store (K1 2) (.t 5) (.t 33)),
 O 6 (.mov (.c (I 0)))] [0, 0, 1, 7, 15] [9, 33, 7, 32]) (
 .ret))))))⟩
def F34 : PF := ⟨1, [.t 2],
 sq (.reg [
 O 2 (.mov (.c (.b false)))] [2]) (
 sq (.reg [
 O 3 (.mov (.t 0)),
 O 4 (.bin .geq (.t 3) (.c (I (-1000000000000)))),
 O 5 (.mov (.t 4)),
 OG 6 5 true (.mov (.t 0)),
 OG 7 5 true (.bin .leq (.t 6) (.c (I 1000000000000))),
 O 8 (.pick (.t 5) (.t 7) (.c (.b false))),
 O 2 (.mov (.t 8))] [8, 7, 6, 5, 4, 0, 3]) (
 .ret))⟩
def F35 : PF := ⟨1, [.t 2],
 sq (.reg [
 O 2 (.mov (.c (.b false)))] [2]) (
 sq (.reg [
 O 3 (.mov (.t 0)),
 O 4 (.bin .geq (.t 3) (.c (I 1))),
 O 5 (.mov (.t 4)),
 OG 6 5 true (.mov (.t 0)),
 OG 7 5 true (.bin .leq (.t 6) (.c (I 6))),
 O 8 (.pick (.t 5) (.t 7) (.c (.b false))),
 O 2 (.mov (.t 8))] [8, 7, 6, 5, 4, 0, 3]) (
 .ret))⟩
def F36 : PF := ⟨3, [.t 6, .t 7],
 sq (.reg [
 O 3 (.box (K1 2) (.t 0)),
 O 6 (.mov (.c (I 0))),
 O 7 (.mov (.c (I 0)))] [7, 6, 0]) (
 sq (sq (.reg [
 O 13 (.mov (.t 1)),
 O 14 (.bin .lss (.t 13) (.c (I 1))),
 O 15 (.mov (.t 14)),
 OG 16 15 false (.mov (.t 2)),
 OG 17 15 false (.call 0 35 [(.t 16)]),
 OG 18 15 false (.un .not (.t 17)),
 O 19 (.pick (.t 15) (.c (.b true)) (.t 18))] [18, 17, 16, 15, 14, 13]) (
 .cond (.t 19) (sq (.reg [
 O 6 (.mov (.c (I 0))),
 O 7 (.mov (.c (I 1)))] []) (
 .ret))
 (.skip))) (
 sq (.reg [
 O 21 (.load (K1 2) (.t 3)),
 O 22 (.mov (.t 1)),
 O 23 (.call 0 43 [(.t 21), (.t 22)]),
 O 20 (.mov (.t 23)),
 O 24 (.ext (.t 20) 0),
 O 25 (.ext (.t 20) 1),
 O 26 (.ext (.t 20) 2),
 O 8 (.alloc (K1 2) (.a [(I 0), (.i .u64 0)])),
 E (.store (K1 2) (.t 8) (.t 24)),
 O 9 (.mov (.t 25)),
 O 10 (.mov (.t 26))] [10, 26, 25, 24, 20, 23, 22, 3, 21]) (
 sq (sq (.reg [
 O 27 (.mov (.t 9)),
 O 28 (.bin .gtr (.t 27) (.c (I 0)))] [27]) (
 .cond (.t 28) (.regD [
 O 30 (.load (K1 2) (.t 8)),
 O 31 (.load (K1 2) (.t 8)),
 O 32 (.mov (.t 9)),
 O 33 (.mov (.t 1)),
 O 34 (.mov (.t 2)),
 O 35 (.call 0 45 [(.t 31), (.t 32), (.t 33), (.t 34)]),
 O 36 (.call 0 44 [(.t 35)]),
 O 37 (.call 0 31 [(.t 30), (.t 36)]),
 O 29 (.mov (.t 37)),
 O 38 (.ext (.t 29) 0),
 O 39 (.ext (.t 29) 1),
 E (.store (K1 2) (.t 8) (.t 38))] [0, 0, 0, 0, 0, 30, 62, 127, 255, 511, 511, 1023] [39, 38, 29, 37, 36, 35, 2, 34, 1, 33, 9, 32, 31, 30])
 (.skip))) (
 sq (.reg [
 O 41 (.load (K1 2) (.t 8)),
 O 42 (.call 0 46 [(.t 41)]),
 O 40 (.mov (.t 42)),
 O 43 (.ext (.t 40) 0),
 O 44 (.ext (.t 40) 1),
 O 11 (.mov (.t 43)),
 O 12 (.mov (.t 44))] [44, 43, 40, 42, 8, 41]) (
 sq (sq (.reg [
 O 45 (.mov (.t 12)),
 O 46 (.un .not (.t 45))] [12, 45]) (
 .cond (.t 46) (sq (.reg [
 O 6 (.mov (.c (I 0))),
 O 7 (.mov (.c (I 6)))] []) (
 .ret))
 (.skip))) (
 sq (.reg [
 O 47 (.mov (.t 11)),
 O 6 (.mov (.t 47)),
 O 7 (.mov (.c (I 0)))] [11, 47]) (
 .ret)))))))⟩
def F37 : PF := ⟨2, [.c 4 (K1 2)],
 sq (.reg [
 O 4 (.alloc (K1 2) (.a [(I 0), (.i .u64 0)]))] []) (
 sq (.reg [
 O 9 (.mov (.t 0)),
 O 10 (.call 0 48 [(.t 9)]),
 O 11 (.mov (.t 1)),
 O 12 (.call 0 48 [(.t 11)]),
 O 13 (.call 0 47 [(.t 10), (.t 12)]),
 O 8 (.mov (.t 13)),
 O 14 (.ext (.t 8) 0),
 O 15 (.ext (.t 8) 1),
 O 5 (.mov (.t 14)),
 O 6 (.mov (.t 15))] [15, 14, 8, 13, 12, 11, 10, 9]) (
 sq (.reg [
 O 16 (.mov (.t 5)),
 O 17 (.conv .i64 (.t 16)),
 O 18 (.mov (.t 6)),
 O 19 (.agg [(I 0), (.i .u64 0)] [(0, K0, (.t 17)), (1, K0, (.t 18))]),
 O 7 (.alloc (K1 2) (.a [(I 0), (.i .u64 0)])),
 E (.store (K1 2) (.t 7) (.t 19))] [19, 6, 18, 17, 5, 16]) (
 sq (sq (.reg [
 O 20 (.mov (.t 0)),
 O 21 (.bin .lss (.t 20) (.c (I 0))),
 O 22 (.mov (.t 1)),
 O 23 (.bin .lss (.t 22) (.c (I 0))),
 O 24 (.eqb true (.t 21) (.t 23))] [23, 1, 22, 21, 0, 20]) (
 .cond (.t 24) (.reg [
 O 25 (.load (K1 2) (.t 7)),
 O 26 (.call 0 49 [(.t 25)]),
 E (.store (K1 2) (.t 7) (.t 26))] [26, 25])
 (.skip))) (
 sq (.reg [
 O 27 (.load (K1 2) (.t 7)),
 E (.store (K1 2) (.t 4) (.t 27))] [7, 27]) (
 .ret)))))⟩
def F38 : PF := ⟨3, [.c 4 (K1 7)],
 sq (.reg [
 O 4 (.alloc (K1 7) (.a [(I 0), (I 0), (I 0), (I 0), (.i .u64 0), (I 0), (.i .u64 0)]))] []) (
 sq (.reg [
 O 8 (.load K0 (.t 1)),
 O 9 (.mov (.t 0)),
 O 10 (.agg [(I 0), (I 0), (I 0), (I 0), (.i .u64 0), (I 0), (.i .u64 0)] [(0, K0, (.t 8)), (1, K0, (.t 9))]),
 O 5 (.alloc (K1 7) (.a [(I 0), (I 0), (I 0), (I 0), (.i .u64 0), (I 0), (.i .u64 0)])),
 E (.store (K1 7) (.t 5) (.t 10))] [10, 9, 8]) (
 sq (sq (.reg [
 O 11 (.load (K1 22) (.t 2)),
 O 12 (.load K0 (.t 1)),
 O 13 (.mov (.t 0)),
 O 14 (.call 0 39 [(.t 11), (.t 12), (.t 13)]),
 O 15 (.un .not (.t 14))] [14, 13, 12, 11]) (
 .cond (.t 15) (sq (.reg [
 O 16 (.load (K1 7) (.t 5)),
 E (.store (K1 7) (.t 4) (.t 16))] [5, 16]) (
 .ret))
 (.skip))) (
 sq (.reg [
 O 17 (.faddr 19 (.t 2)),
 O 18 (.load K0 (.t 17)),
 O 19 (.load K0 (.t 1)),
 O 20 (.mov (.t 0)),
 O 21 (.call 0 40 [(.t 18), (.t 19), (.c (I 73048)), (.t 20)]),
 O 22 (.faddr 2 (.t 5)),
 E (.store K0 (.t 22) (.t 21))] [22, 21, 20, 19, 18, 17]) (
 sq (.reg [
 O 24 (.load (K1 22) (.t 2)),
 O 25 (.load K0 (.t 1)),
 O 26 (.mov (.t 0)),
 O 27 (.call 0 24 [(.t 24), (.t 25), (.t 26)]),
 O 23 (.mov (.t 27)),
 O 28 (.ext (.t 23) 0),
 O 29 (.ext (.t 23) 1),
 O 6 (.alloc (K1 19) (.a [(.s []), (.s []), (.s []), (I 0), (I 0), (I 0), (I 0), (.l (K1 2) [] true), (.b false), (I 0), (I 0), (.b false), (.l (K1 2) [] true), (.b false), (I 0), (I 0), (.b false), (.l (K1 10) [] true), (.l (K1 6) [] true)])),
 E (.store (K1 19) (.t 6) (.t 28)),
 O 7 (.mov (.t 29))] [29, 28, 23, 27, 26, 1, 25, 2, 24]) (
 sq (.block 0 (
 sq (.reg [
 O 31 (.mov (.t 7)),
 O 32 (.un .not (.t 31)),
 O 30 (.mov (.t 32))] [32, 7, 31]) (
 .cond (.t 30) (.skip)
 (sq (.reg [
 O 34 (.faddr 2 (.t 5)),
 O 35 (.load K0 (.t 34)),
 O 36 (.bin .gtr (.t 35) (.c (I 0))),
 O 33 (.mov (.t 36))] [36, 35, 34]) (
 .cond (.t 33) (.reg [
 O 37 (.load (K1 19) (.t 6)),
 O 38 (.faddr 2 (.t 5)),
 O 39 (.load K0 (.t 38)),
 O 40 (.mov (.t 0)),
 O 41 (.call 0 41 [(.t 37), (.t 39), (.t 40)]),
 O 42 (.faddr 3 (.t 5)),
 E (.store (K1 2) (.t 42) (.t 41))] [42, 41, 0, 40, 39, 38, 6, 37])
 (sq (.reg [
 O 44 (.faddr 2 (.t 5)),
 O 45 (.load K0 (.t 44)),
 O 46 (.bin .lss (.t 45) (.c (I 0))),
 O 43 (.mov (.t 46))] [46, 45, 44]) (
 .cond (.t 43) (.reg [
 O 47 (.load (K1 19) (.t 6)),
 O 48 (.faddr 2 (.t 5)),
 O 49 (.load K0 (.t 48)),
 O 50 (.mov (.t 0)),
 O 51 (.call 0 41 [(.t 47), (.t 49), (.t 50)]),
 O 52 (.faddr 5 (.t 5)),
 E (.store (K1 2) (.t 52) (.t 51))] [52, 51, 0, 50, 49, 48, 6, 47])
 (.skip)))))))) (
 sq (.reg [
 O 53 (.load (K1 7) (.t 5)),
 E (.store (K1 7) (.t 4) (.t 53))] [5, 53]) (
 .ret)))))))⟩
def F39 : PF := ⟨3, [.t 6],
 sq (.reg [
 O 3 (.box (K1 22) (.t 0)),
 O 6 (.mov (.c (.b false)))] [6, 0]) (
 sq (.reg [
 O 10 (.load (K1 22) (.t 3)),
 O 11 (.mov (.t 1)),
 O 12 (.call 0 12 [(.t 10), (.t 11)]),
 O 9 (.mov (.t 12)),
 O 13 (.ext (.t 9) 0),
 O 14 (.ext (.t 9) 1),
 O 7 (.alloc (K1 7) (.a [(I 0), (I 0), (I 0), (I 0), (.s []), (.s []), (.s [])])),
 E (.store (K1 7) (.t 7) (.t 13)),
 O 8 (.mov (.t 14))] [14, 13, 9, 12, 1, 11, 3, 10]) (
 sq (.reg [
 O 15 (.mov (.t 8)),
 O 16 (.mov (.t 15)),
 OG 17 16 true (.faddr 1 (.t 7)),
 OG 18 16 true (.load K0 (.t 17)),
 OG 19 16 true (.mov (.t 2)),
 OG 20 16 true (.bin .leq (.t 18) (.t 19)),
 O 21 (.pick (.t 16) (.t 20) (.c (.b false))),
 O 22 (.mov (.t 21)),
 OG 23 22 true (.faddr 2 (.t 7)),
 OG 24 22 true (.load K0 (.t 23)),
 OG 25 22 true (.bin .eql (.t 24) (.c (I 0))),
 OG 26 22 true (.mov (.t 25)),
 OG 27 26 false (.faddr 2 (.t 7)),
 OG 28 26 false (.load K0 (.t 27)),
 OG 29 26 false (.mov (.t 2)),
 OG 30 26 false (.bin .gtr (.t 28) (.t 29)),
 OG 31 22 true (.pick (.t 26) (.c (.b true)) (.t 30)),
 O 32 (.pick (.t 22) (.t 31) (.c (.b false))),
 O 6 (.mov (.t 32))] [32, 31, 30, 29, 28, 27, 26, 25, 24, 23, 22, 21, 20, 2, 19, 18, 7, 17, 16, 8, 15]) (
 .ret)))⟩
def L40_0 : PC :=
 sq (.reg [
 O 10 (.alloc (K1 10) (.a [(I 0), (I 0), (I 0), (I 0), (I 0), (I 0), (.s []), (.s []), (.l (K1 3) [] true), (.i .u64 0)])),
 E (.store (K1 10) (.t 10) (.t 15))] [15]) (
 .reg [
 O 11 (.mov (.t 16))] [16])
def L40_1 : PC :=
 .block 1 (
 sq (.reg [
 O 17 (.faddr 1 (.t 10)),
 O 18 (.load K0 (.t 17)),
 O 19 (.load K0 (.t 6)),
 O 20 (.bin .leq (.t 18) (.t 19)),
 O 21 (.mov (.t 20)),
 OG 22 21 true (.faddr 2 (.t 10)),
 OG 23 21 true (.load K0 (.t 22)),
 OG 24 21 true (.load K0 (.t 7)),
 OG 25 21 true (.bin .leq (.t 23) (.t 24)),
 O 26 (.pick (.t 21) (.t 25) (.c (.b false)))] [25, 7, 24, 23, 22, 21, 20, 6, 19, 18, 10, 17]) (
 .cond (.t 26) (.reg [
 O 27 (.load K0 (.t 9)),
 O 28 (.mov (.t 11)),
 O 29 (.bin .sub (.t 27) (.t 28)),
 E (.store K0 (.t 9) (.t 29))] [29, 11, 28, 9, 27])
 (.skip)))
def F40 : PF := ⟨4, [.t 8],
 sq (.reg [
 O 6 (.box K0 (.t 2)),
 O 7 (.box K0 (.t 3)),
 O 8 (.mov (.c (I 0)))] [8, 3, 2]) (
 sq (.reg [
 O 9 (.alloc K0 (I 0)),
 E (.store K0 (.t 9) (.c (I 0)))] []) (
 sq (sq (.reg [
 O 12 (.mov (.t 0)),
 O 13 (.mov (.t 1)),
 O 14 (.call 2 50 [(.t 12), (.t 13)])] [1, 13, 0, 12]) (
 .block 0 (
 .rng (.t 14) 100016 [15, 16] [6, 7, 9] L40_0 L40_1))) (
 sq (.reg [
 O 30 (.load K0 (.t 9)),
 O 8 (.mov (.t 30))] [9, 30]) (
 .ret))))⟩
def F41 : PF := ⟨3, [.c 6 (K1 2)],
 sq (.reg [
 O 3 (.box (K1 19) (.t 0)),
 O 6 (.alloc (K1 2) (.a [(I 0), (.i .u64 0)]))] [0]) (
 sq (.reg [
 O 11 (.load (K1 19) (.t 3)),
 O 12 (.mov (.t 1)),
 O 13 (.call 0 51 [(.t 11), (.t 12)]),
 O 7 (.alloc (K1 5) (.a [(.l (K1 2) [] true), (.b false), (I 0), (I 0), (.b false)])),
 E (.store (K1 5) (.t 7) (.t 13))] [13, 12, 3, 11]) (
 sq (.reg [
 O 14 (.faddr 0 (.t 7)),
 O 15 (.load K0 (.t 14)),
 O 16 (.faddr 1 (.t 7)),
 O 17 (.load K0 (.t 16)),
 O 18 (.mov (.t 1)),
 O 19 (.call 0 52 [(.t 15), (.t 17), (.t 18)]),
 O 8 (.mov (.t 19))] [19, 1, 18, 17, 16, 15, 14]) (
 sq (.reg [
 O 21 (.mov (.t 8)),
 O 22 (.faddr 2 (.t 7)),
 O 23 (.load K0 (.t 22)),
 O 24 (.mov (.t 2)),
 O 25 (.call 0 54 [(.t 23), (.t 24)]),
 O 26 (.call 0 53 [(.t 21), (.t 25)]),
 O 20 (.mov (.t 26)),
 O 27 (.ext (.t 20) 0),
 O 28 (.ext (.t 20) 1),
 O 9 (.alloc (K1 2) (.a [(I 0), (.i .u64 0)])),
 E (.store (K1 2) (.t 9) (.t 27)),
 O 10 (.mov (.t 28))] [28, 27, 20, 26, 25, 2, 24, 23, 7, 22, 8, 21]) (
 sq (sq (.reg [
 O 29 (.mov (.t 10)),
 O 30 (.bin .neq (.t 29) (.c (I 0)))] [10, 29]) (
 .cond (.t 30) (sq (.reg [
 O 31 (.agg [(I 0), (.i .u64 0)] []),
 E (.store (K1 2) (.t 6) (.t 31))] [31]) (
 .ret))
 (.skip))) (
 sq (.reg [
 O 32 (.load (K1 2) (.t 9)),
 E (.store (K1 2) (.t 6) (.t 32))] [9, 32]) (
 .ret))))))⟩
def F42 : PF := ⟨2, [.c 4 (K1 2), .t 5],
 sq (.reg [
 O 2 (.box (K1 2) (.t 0)),
 O 3 (.box (K1 2) (.t 1)),
 O 4 (.alloc (K1 2) (.a [(I 0), (.i .u64 0)])),
 O 5 (.mov (.c (I 0)))] [5, 1, 0]) (
 sq (.reg [
 O 10 (.faddr 1 (.t 2)),
 O 11 (.load K0 (.t 10)),
 O 12 (.faddr 1 (.t 3)),
 O 13 (.load K0 (.t 12)),
 O 14 (.prim 1 [(.t 11), (.t 13), (.c (.i .u64 0))]),
 O 9 (.mov (.t 14)),
 O 15 (.ext (.t 9) 0),
 O 16 (.ext (.t 9) 1),
 O 6 (.mov (.t 15)),
 O 7 (.mov (.t 16))] [16, 15, 9, 14, 13, 12, 11, 10]) (
 sq (.reg [
 O 17 (.faddr 0 (.t 2)),
 O 18 (.load K0 (.t 17)),
 O 19 (.faddr 0 (.t 3)),
 O 20 (.load K0 (.t 19)),
 O 21 (.bin .sub (.t 18) (.t 20)),
 O 22 (.mov (.t 7)),
 O 23 (.conv .i64 (.t 22)),
 O 24 (.bin .sub (.t 21) (.t 23)),
 O 8 (.mov (.t 24))] [24, 23, 7, 22, 21, 20, 19, 18, 17]) (
 sq (sq (.reg [
 O 25 (.faddr 0 (.t 2)),
 O 26 (.load K0 (.t 25)),
 O 27 (.bin .lss (.t 26) (.c (I 0))),
 O 28 (.faddr 0 (.t 3)),
 O 29 (.load K0 (.t 28)),
 O 30 (.bin .lss (.t 29) (.c (I 0))),
 O 31 (.eqb true (.t 27) (.t 30)),
 O 32 (.mov (.t 31)),
 OG 33 32 true (.mov (.t 8)),
 OG 34 32 true (.bin .lss (.t 33) (.c (I 0))),
 OG 35 32 true (.faddr 0 (.t 2)),
 OG 36 32 true (.load K0 (.t 35)),
 OG 37 32 true (.bin .lss (.t 36) (.c (I 0))),
 OG 38 32 true (.eqb true (.t 34) (.t 37)),
 O 39 (.pick (.t 32) (.t 38) (.c (.b false)))] [38, 37, 36, 35, 34, 33, 32, 31, 30, 29, 3, 28, 27, 26, 2, 25]) (
 .cond (.t 39) (sq (.reg [
 O 40 (.agg [(I 0), (.i .u64 0)] []),
 E (.store (K1 2) (.t 4) (.t 40)),
 O 5 (.mov (.c (I 6)))] [40]) (
 .ret))
 (.skip))) (
 sq (.reg [
 O 41 (.mov (.t 8)),
 O 42 (.mov (.t 6)),
 O 43 (.agg [(I 0), (.i .u64 0)] [(0, K0, (.t 41)), (1, K0, (.t 42))]),
 E (.store (K1 2) (.t 4) (.t 43)),
 O 5 (.mov (.c (I 0)))] [43, 6, 42, 8, 41]) (
 .ret)))))⟩
def F43 : PF := ⟨2, [.c 4 (K1 2), .t 5, .t 6],
 sq (.reg [
 O 2 (.box (K1 2) (.t 0)),
 O 4 (.alloc (K1 2) (.a [(I 0), (.i .u64 0)])),
 O 5 (.mov (.c (I 0))),
 O 6 (.mov (.c (I 0)))] [6, 5, 0]) (
 sq (sq (.reg [
 O 11 (.mov (.t 1)),
 O 12 (.bin .lss (.t 11) (.c (I 1)))] [11]) (
 .cond (.t 12) (sq (.reg [
 O 13 (.agg [(I 0), (.i .u64 0)] []),
 E (.store (K1 2) (.t 4) (.t 13)),
 O 5 (.mov (.c (I 0))),
 O 6 (.mov (.c (I 1)))] [13]) (
 .ret))
 (.skip))) (
 sq (.reg [
 O 15 (.load (K1 2) (.t 2)),
 O 16 (.call 0 55 [(.t 15)]),
 O 17 (.mov (.t 1)),
 O 18 (.conv .u64 (.t 17)),
 O 19 (.call 0 56 [(.t 16), (.t 18)]),
 O 14 (.mov (.t 19)),
 O 20 (.ext (.t 14) 0),
 O 21 (.ext (.t 14) 1),
 O 7 (.alloc (K1 2) (.a [(.i .u64 0), (.i .u64 0)])),
 E (.store (K1 2) (.t 7) (.t 20)),
 O 8 (.mov (.t 21))] [21, 20, 14, 19, 18, 17, 16, 15]) (
 sq (sq (.reg [
 O 22 (.faddr 0 (.t 2)),
 O 23 (.load K0 (.t 22)),
 O 24 (.bin .lss (.t 23) (.c (I 0))),
 O 25 (.mov (.t 24)),
 OG 26 25 true (.mov (.t 8)),
 OG 27 25 true (.bin .gtr (.t 26) (.c (.i .u64 0))),
 O 28 (.pick (.t 25) (.t 27) (.c (.b false)))] [27, 26, 25, 24, 23, 22]) (
 .cond (.t 28) (sq (.reg [
 O 30 (.load (K1 2) (.t 7)),
 O 31 (.call 0 57 [(.t 30), (.c (.i .u64 1)), (.c (.i .u64 1))]),
 O 29 (.mov (.t 31)),
 O 32 (.ext (.t 29) 0),
 O 33 (.ext (.t 29) 1),
 E (.store (K1 2) (.t 7) (.t 32))] [33, 32, 29, 31, 30]) (
 .reg [
 O 34 (.mov (.t 1)),
 O 35 (.conv .u64 (.t 34)),
 O 36 (.mov (.t 8)),
 O 37 (.bin .sub (.t 35) (.t 36)),
 O 8 (.mov (.t 37))] [37, 36, 35, 1, 34]))
 (.skip))) (
 sq (.regD [
 O 39 (.load (K1 2) (.t 7)),
 O 40 (.faddr 0 (.t 2)),
 O 41 (.load K0 (.t 40)),
 O 42 (.bin .lss (.t 41) (.c (I 0))),
 O 43 (.mov (.t 42)),
 OG 44 43 true (.load (K1 2) (.t 7)),
 OG 45 43 true (.agg [(.i .u64 0), (.i .u64 0)] []),
 OG 46 43 true (.eqv true [1, 1] (.t 44) (.t 45)),
 O 47 (.pick (.t 43) (.t 46) (.c (.b false))),
 O 48 (.call 0 58 [(.t 39), (.t 47)]),
 O 38 (.mov (.t 48)),
 O 49 (.ext (.t 38) 0),
 O 50 (.ext (.t 38) 1),
 O 9 (.alloc (K1 2) (.a [(I 0), (.i .u64 0)])),
 E (.store (K1 2) (.t 9) (.t 49)),
 O 10 (.mov (.t 50))] [0, 0, 2, 6, 14, 30, 30, 126, 254, 511, 1023, 2047, 2047, 0, 12287, 32767] [10, 50, 49, 38, 48, 47, 46, 45, 44, 43, 42, 41, 2, 40, 7, 39]) (
 sq (.reg [
 O 51 (.load (K1 2) (.t 9)),
 O 52 (.mov (.t 8)),
 O 53 (.conv .i64 (.t 52)),
 E (.store (K1 2) (.t 4) (.t 51)),
 O 5 (.mov (.t 53)),
 O 6 (.mov (.c (I 0)))] [53, 8, 52, 9, 51]) (
 .ret))))))⟩
def F44 : PF := ⟨1, [.c 2 (K1 2)],
 sq (.reg [
 O 2 (.alloc (K1 2) (.a [(I 0), (.i .u64 0)]))] []) (
 sq (.reg [
 O 3 (.mov (.t 0)),
 O 4 (.bin .shr (.t 3) (.c (.i .u64 63))),
 O 5 (.mov (.t 0)),
 O 6 (.conv .u64 (.t 5)),
 O 7 (.agg [(I 0), (.i .u64 0)] [(0, K0, (.t 4)), (1, K0, (.t 6))]),
 E (.store (K1 2) (.t 2) (.t 7))] [7, 6, 5, 4, 0, 3]) (
 .ret))⟩
def F46 : PF := ⟨1, [.t 2, .t 3],
 sq (.reg [
 O 1 (.box (K1 2) (.t 0)),
 O 2 (.mov (.c (I 0))),
 O 3 (.mov (.c (.b false)))] [3, 2, 0]) (
 sq (.reg [
 O 5 (.faddr 1 (.t 1)),
 O 6 (.load K0 (.t 5)),
 O 7 (.conv .i64 (.t 6)),
 O 4 (.mov (.t 7))] [7, 6, 5]) (
 sq (sq (.regD [
 O 8 (.mov (.t 4)),
 O 9 (.call 0 44 [(.t 8)]),
 O 10 (.load (K1 2) (.t 1)),
 O 11 (.eqv true [1, 1] (.t 9) (.t 10))] [0, 1, 0, 7] [1, 10, 9, 8]) (
 .cond (.t 11) (sq (.reg [
 O 2 (.mov (.c (I 0))),
 O 3 (.mov (.c (.b false)))] []) (
 .ret))
 (.skip))) (
 sq (.reg [
 O 12 (.mov (.t 4)),
 O 2 (.mov (.t 12)),
 O 3 (.mov (.c (.b true)))] [4, 12]) (
 .ret))))⟩
def F47 : PF := ⟨2, [.t 4, .t 5],
 sq (.reg [
 O 4 (.mov (.c (.i .u64 0))),
 O 5 (.mov (.c (.i .u64 0)))] [5, 4]) (
 sq (.reg [
 O 14 (.mov (.t 0)),
 O 15 (.bin .and (.t 14) (.c (.i .u64 4294967295))),
 O 6 (.mov (.t 15))] [15, 14]) (
 sq (.reg [
 O 16 (.mov (.t 0)),
 O 17 (.bin .shr (.t 16) (.c (.i .u64 32))),
 O 7 (.mov (.t 17))] [17, 16]) (
 sq (.reg [
 O 18 (.mov (.t 1)),
 O 19 (.bin .and (.t 18) (.c (.i .u64 4294967295))),
 O 8 (.mov (.t 19))] [19, 18]) (
 sq (.reg [
 O 20 (.mov (.t 1)),
 O 21 (.bin .shr (.t 20) (.c (.i .u64 32))),
 O 9 (.mov (.t 21))] [21, 20]) (
 sq (.reg [
 O 22 (.mov (.t 6)),
 O 23 (.mov (.t 8)),
 O 24 (.bin .mul (.t 22) (.t 23)),
 O 10 (.mov (.t 24))] [24, 23, 22]) (
 sq (.reg [
 O 25 (.mov (.t 7)),
 O 26 (.mov (.t 8)),
 O 27 (.bin .mul (.t 25) (.t 26)),
 O 28 (.mov (.t 10)),
 O 29 (.bin .shr (.t 28) (.c (.i .u64 32))),
 O 30 (.bin .add (.t 27) (.t 29)),
 O 11 (.mov (.t 30))] [30, 29, 10, 28, 27, 8, 26, 25]) (
 sq (.reg [
 O 31 (.mov (.t 11)),
 O 32 (.bin .and (.t 31) (.c (.i .u64 4294967295))),
 O 12 (.mov (.t 32))] [32, 31]) (
 sq (.reg [
 O 33 (.mov (.t 11)),
 O 34 (.bin .shr (.t 33) (.c (.i .u64 32))),
 O 13 (.mov (.t 34))] [34, 11, 33]) (
 sq (.reg [
 O 35 (.mov (.t 12)),
 O 36 (.mov (.t 6)),
 O 37 (.mov (.t 9)),
 O 38 (.bin .mul (.t 36) (.t 37)),
 O 39 (.bin .add (.t 35) (.t 38)),
 O 12 (.mov (.t 39))] [39, 38, 37, 6, 36, 35]) (
 sq (.reg [
 O 40 (.mov (.t 7)),
 O 41 (.mov (.t 9)),
 O 42 (.bin .mul (.t 40) (.t 41)),
 O 43 (.mov (.t 13)),
 O 44 (.bin .add (.t 42) (.t 43)),
 O 45 (.mov (.t 12)),
 O 46 (.bin .shr (.t 45) (.c (.i .u64 32))),
 O 47 (.bin .add (.t 44) (.t 46)),
 O 4 (.mov (.t 47))] [47, 46, 12, 45, 44, 13, 43, 42, 9, 41, 7, 40]) (
 sq (.reg [
 O 48 (.mov (.t 0)),
 O 49 (.mov (.t 1)),
 O 50 (.bin .mul (.t 48) (.t 49)),
 O 5 (.mov (.t 50))] [50, 1, 49, 0, 48]) (
 .ret))))))))))))⟩
def F48 : PF := ⟨1, [.t 2],
 sq (.reg [
 O 2 (.mov (.c (.i .u64 0)))] [2]) (
 sq (sq (.reg [
 O 3 (.mov (.t 0)),
 O 4 (.bin .lss (.t 3) (.c (I 0)))] [3]) (
 .cond (.t 4) (sq (.reg [
 O 5 (.mov (.t 0)),
 O 6 (.conv .u64 (.t 5)),
 O 7 (.un .neg (.t 6)),
 O 2 (.mov (.t 7))] [7, 6, 0, 5]) (
 .ret))
 (.skip))) (
 sq (.reg [
 O 8 (.mov (.t 0)),
 O 9 (.conv .u64 (.t 8)),
 O 2 (.mov (.t 9))] [9, 0, 8]) (
 .ret)))⟩
def F50 : PF := ⟨2, [.t 4],
 sq (.reg [
 O 2 (.box K0 (.t 0)),
 O 3 (.box K0 (.t 1)),
 O 4 (.mov (.c .nf))] [4, 1, 0]) (
 sq (.reg [
 O 5 (.mkf 59 [(.t 2), (.t 3)]),
 O 4 (.mov (.t 5))] [3, 2, 5]) (
 .ret))⟩
def F51 : PF := ⟨2, [.c 4 (K1 5)],
 sq (.reg [
 O 2 (.box (K1 19) (.t 0)),
 O 4 (.alloc (K1 5) (.a [(.l (K1 2) [] true), (.b false), (I 0), (I 0), (.b false)]))] [0]) (
 sq (.reg [
 O 6 (.faddr 7 (.t 2)),
 O 7 (.load (K1 5) (.t 6)),
 O 5 (.alloc (K1 5) (.a [(.l (K1 2) [] true), (.b false), (I 0), (I 0), (.b false)])),
 E (.store (K1 5) (.t 5) (.t 7))] [7, 6]) (
 sq (sq (.reg [
 O 8 (.mov (.t 1)),
 O 9 (.bin .lss (.t 8) (.c (I 0)))] [1, 8]) (
 .cond (.t 9) (.reg [
 O 10 (.faddr 12 (.t 2)),
 O 11 (.load (K1 5) (.t 10)),
 E (.store (K1 5) (.t 5) (.t 11))] [11, 2, 10])
 (.skip))) (
 sq (.reg [
 O 12 (.faddr 0 (.t 5)),
 O 13 (.load K0 (.t 12)),
 O 14 (.call 1 60 [(.t 13)]),
 O 15 (.faddr 0 (.t 5)),
 E (.store K0 (.t 15) (.t 14))] [15, 14, 13, 12]) (
 sq (.reg [
 O 16 (.load (K1 5) (.t 5)),
 E (.store (K1 5) (.t 4) (.t 16))] [5, 16]) (
 .ret)))))⟩
def L52_0 : PC :=
 sq (.reg [
 O 37 (.bin .lss (.t 36) (.t 35))] []) (
 sq (.cond (.t 37) (.skip)
 (.exit 0)) (
 sq (.block 1 (
 sq (.reg [
 O 38 (.mov (.t 36)),
 O 39 (.iaddr (K1 2) (.t 34) (.t 36)),
 O 40 (.load (K1 2) (.t 39)),
 O 10 (.alloc (K1 2) (.a [(I 0), (I 0)])),
 O 9 (.mov (.t 38)),
 E (.store (K1 2) (.t 10) (.t 40))] [40, 39, 38]) (
 sq (.reg [
 O 41 (.mov (.t 7)),
 O 11 (.mov (.t 41))] [41]) (
 sq (sq (.reg [
 O 42 (.mov (.t 9)),
 O 43 (.bin .add (.t 42) (.c (I 1))),
 O 44 (.mov (.t 0)),
 O 45 (.len false (.t 44)),
 O 46 (.bin .lss (.t 43) (.t 45))] [45, 44, 43, 42]) (
 .cond (.t 46) (.reg [
 O 47 (.mov (.t 11)),
 O 48 (.mov (.t 0)),
 O 49 (.mov (.t 9)),
 O 50 (.bin .add (.t 49) (.c (I 1))),
 O 51 (.iaddr (K1 2) (.t 48) (.t 50)),
 O 52 (.faddr 0 (.t 51)),
 O 53 (.load K0 (.t 52)),
 O 54 (.minmax false [(.t 47), (.t 53)]),
 O 11 (.mov (.t 54))] [54, 53, 52, 51, 50, 9, 49, 48, 47])
 (.skip))) (
 sq (.reg [
 O 55 (.mov (.t 11)),
 O 56 (.faddr 0 (.t 10)),
 O 57 (.load K0 (.t 56)),
 O 58 (.bin .gtr (.t 55) (.t 57))] [57, 56, 55]) (
 .cond (.t 58) (.reg [
 O 59 (.mov (.t 8)),
 O 60 (.mov (.t 11)),
 O 61 (.faddr 0 (.t 10)),
 O 62 (.load K0 (.t 61)),
 O 63 (.bin .sub (.t 60) (.t 62)),
 O 64 (.faddr 1 (.t 10)),
 O 65 (.load K0 (.t 64)),
 O 66 (.agg [(I 0), (I 0)] [(0, K0, (.t 63)), (1, K0, (.t 65))]),
 O 67 (.bsl (K1 2) (.a [(I 0), (I 0)]) 1 [(0, (.t 66))]),
 O 68 (.app (K1 2) 16 (.t 59) (.t 67)),
 O 8 (.mov (.t 68))] [68, 67, 66, 65, 64, 63, 62, 10, 61, 11, 60, 59])
 (.skip))))))) (
 .reg [
 O 69 (.bin .add (.t 36) (.c (I 1))),
 O 36 (.mov (.t 69))] [69])))
def F52 : PF := ⟨3, [.t 6],
 sq (.reg [
 O 6 (.mov (.c (.l (K1 2) [] true)))] [6]) (
 sq (.reg [
 O 12 (.mov (.t 2)),
 O 13 (.call 0 61 [(.t 12)]),
 O 7 (.mov (.t 13))] [13, 12]) (
 sq (sq (.reg [
 O 14 (.mov (.t 0)),
 O 15 (.len false (.t 14)),
 O 16 (.bin .eql (.t 15) (.c (I 0))),
 O 17 (.mov (.t 16)),
 OG 18 17 false (.mov (.t 0)),
 OG 19 17 false (.call 0 62 [(.t 18)]),
 OG 20 17 false (.bin .neq (.t 19) (.c (I 0))),
 O 21 (.pick (.t 17) (.c (.b true)) (.t 20)),
 O 22 (.mov (.t 21)),
 OG 23 22 false (.mov (.t 7)),
 OG 24 22 false (.bin .eql (.t 23) (.c (I 0))),
 O 25 (.pick (.t 22) (.c (.b true)) (.t 24))] [24, 23, 22, 21, 20, 19, 18, 17, 16, 15, 14]) (
 .cond (.t 25) (sq (.reg [
 O 6 (.mov (.c (.l (K1 2) [] true)))] []) (
 .ret))
 (.skip))) (
 sq (sq (.reg [
 O 26 (.mov (.t 1)),
 O 27 (.un .not (.t 26))] [1, 26]) (
 .cond (.t 27) (sq (.reg [
 O 28 (.mov (.t 7)),
 O 29 (.mov (.t 0)),
 O 30 (.mov (.t 2)),
 O 31 (.call 0 63 [(.t 29), (.t 30)]),
 O 32 (.agg [(I 0), (I 0)] [(0, K0, (.t 28)), (1, K0, (.t 31))]),
 O 33 (.bsl (K1 2) (.a [(I 0), (I 0)]) 1 [(0, (.t 32))]),
 O 6 (.mov (.t 33))] [33, 32, 31, 2, 30, 0, 29, 7, 28]) (
 .ret))
 (.skip))) (
 sq (.reg [
 O 8 (.mov (.c (.l (K1 2) [] true)))] []) (
 sq (sq (.reg [
 O 34 (.mov (.t 0)),
 O 35 (.len false (.t 34)),
 O 36 (.mov (.c (I 0)))] []) (
 .block 0 (
 .loop [0, 7, 8, 34, 35, 36] L52_0))) (
 sq (.reg [
 O 70 (.mov (.t 8)),
 O 6 (.mov (.t 70))] [8, 70]) (
 .ret)))))))⟩
def L53_0 : PC :=
 sq (.reg [
 O 25 (.bin .lss (.t 24) (.t 23))] []) (
 sq (.cond (.t 25) (.skip)
 (.exit 0)) (
 sq (.block 1 (
 sq (.reg [
 O 26 (.iaddr (K1 2) (.t 22) (.t 24)),
 O 27 (.load (K1 2) (.t 26)),
 O 8 (.alloc (K1 2) (.a [(I 0), (I 0)])),
 E (.store (K1 2) (.t 8) (.t 27))] [27, 26]) (
 sq (sq (.reg [
 O 28 (.faddr 0 (.t 8)),
 O 29 (.load K0 (.t 28)),
 O 30 (.bin .lss (.t 29) (.c (I 0))),
 O 31 (.mov (.t 30)),
 OG 32 31 false (.faddr 1 (.t 8)),
 OG 33 31 false (.load K0 (.t 32)),
 OG 34 31 false (.bin .lss (.t 33) (.c (I 0))),
 O 35 (.pick (.t 31) (.c (.b true)) (.t 34)),
 O 36 (.mov (.t 35)),
 OG 37 36 false (.faddr 1 (.t 8)),
 OG 38 36 false (.load K0 (.t 37)),
 OG 39 36 false (.bin .gtr (.t 38) (.c (I 1000000))),
 O 40 (.pick (.t 36) (.c (.b true)) (.t 39))] [39, 38, 37, 36, 35, 34, 33, 32, 31, 30, 29, 28]) (
 .cond (.t 40) (sq (.reg [
 O 41 (.agg [(I 0), (.i .u64 0)] []),
 E (.store (K1 2) (.t 4) (.t 41)),
 O 5 (.mov (.c (I 1)))] [41]) (
 .ret))
 (.skip))) (
 sq (.reg [
 O 43 (.faddr 0 (.t 8)),
 O 44 (.load K0 (.t 43)),
 O 45 (.faddr 1 (.t 8)),
 O 46 (.load K0 (.t 45)),
 O 47 (.call 0 37 [(.t 44), (.t 46)]),
 O 48 (.mov (.t 1)),
 O 49 (.call 0 64 [(.t 47), (.t 48)]),
 O 42 (.mov (.t 49)),
 O 50 (.ext (.t 42) 0),
 O 51 (.ext (.t 42) 1),
 O 9 (.alloc (K1 2) (.a [(I 0), (.i .u64 0)])),
 E (.store (K1 2) (.t 9) (.t 50)),
 O 10 (.mov (.t 51))] [10, 51, 50, 42, 49, 48, 47, 46, 45, 44, 8, 43]) (
 .reg [
 O 53 (.load (K1 2) (.t 6)),
 O 54 (.load (K1 2) (.t 9)),
 O 55 (.call 0 31 [(.t 53), (.t 54)]),
 O 52 (.mov (.t 55)),
 O 56 (.ext (.t 52) 0),
 O 57 (.ext (.t 52) 1),
 E (.store (K1 2) (.t 6) (.t 56))] [57, 56, 52, 55, 9, 54, 53]))))) (
 .reg [
 O 58 (.bin .add (.t 24) (.c (I 1))),
 O 24 (.mov (.t 58))] [58])))
def F53 : PF := ⟨2, [.c 4 (K1 2), .t 5],
 sq (.reg [
 O 4 (.alloc (K1 2) (.a [(I 0), (.i .u64 0)])),
 O 5 (.mov (.c (I 0)))] [5]) (
 sq (sq (.reg [
 O 11 (.mov (.t 0)),
 O 12 (.len false (.t 11)),
 O 13 (.bin .gtr (.t 12) (.c (I 6)))] [12, 11]) (
 .cond (.t 13) (sq (.reg [
 O 14 (.agg [(I 0), (.i .u64 0)] []),
 E (.store (K1 2) (.t 4) (.t 14)),
 O 5 (.mov (.c (I 5)))] [14]) (
 .ret))
 (.skip))) (
 sq (sq (.reg [
 O 15 (.mov (.t 1)),
 O 16 (.bin .lss (.t 15) (.c (I 0))),
 O 17 (.mov (.t 16)),
 OG 18 17 false (.mov (.t 1)),
 OG 19 17 false (.bin .gtr (.t 18) (.c (I 6412320000))),
 O 20 (.pick (.t 17) (.c (.b true)) (.t 19))] [19, 18, 17, 16, 15]) (
 .cond (.t 20) (sq (.reg [
 O 21 (.agg [(I 0), (.i .u64 0)] []),
 E (.store (K1 2) (.t 4) (.t 21)),
 O 5 (.mov (.c (I 1)))] [21]) (
 .ret))
 (.skip))) (
 sq (.reg [
 O 6 (.alloc (K1 2) (.a [(I 0), (.i .u64 0)]))] []) (
 sq (sq (.reg [
 O 22 (.mov (.t 0)),
 O 23 (.len false (.t 22)),
 O 24 (.mov (.c (I 0)))] [0]) (
 .block 0 (
 .loop [1, 4, 6, 22, 23, 24] L53_0))) (
 sq (.reg [
 O 59 (.load (K1 2) (.t 6)),
 E (.store (K1 2) (.t 4) (.t 59)),
 O 5 (.mov (.c (I 0)))] [6, 59]) (
 .ret))))))⟩
def F54 : PF := ⟨2, [.t 4],
 sq (.reg [
 O 4 (.mov (.c (I 0)))] [4]) (
 sq (sq (.reg [
 O 9 (.mov (.t 1)),
 O 10 (.call 0 22 [(.t 9)]),
 O 11 (.un .not (.t 10))] [10, 9]) (
 .cond (.t 11) (sq (.reg [
 O 4 (.mov (.c (I 0)))] []) (
 .ret))
 (.skip))) (
 sq (.reg [
 O 13 (.mov (.t 1)),
 O 14 (.call 0 65 [(.t 13)]),
 O 12 (.mov (.t 14)),
 O 15 (.ext (.t 12) 0),
 O 16 (.ext (.t 12) 1),
 O 17 (.ext (.t 12) 2),
 O 5 (.mov (.t 15)),
 O 6 (.mov (.t 16)),
 O 7 (.mov (.t 17))] [7, 6, 17, 16, 15, 12, 14, 13]) (
 sq (.reg [
 O 8 (.mov (.c (I 1)))] []) (
 sq (sq (.reg [
 O 18 (.mov (.t 0))] [0]) (
 .block 0 (
 sq (.block 4 (
 sq (.block 3 (
 sq (.block 2 (
 sq (.block 1 (
 sq (sq (sq (.reg [
 O 20 (.bin .eql (.t 18) (.c (I 3))),
 O 19 (.mov (.t 20))] [20]) (
 .cond (.t 19) (.exit 1)
 (.skip))) (
 sq (sq (.reg [
 O 22 (.bin .eql (.t 18) (.c (I 2))),
 O 21 (.mov (.t 22))] [22]) (
 .cond (.t 21) (.exit 2)
 (.skip))) (
 sq (sq (.reg [
 O 24 (.bin .eql (.t 18) (.c (I 4))),
 O 23 (.mov (.t 24))] [24]) (
 .cond (.t 23) (.exit 3)
 (.skip))) (
 sq (.reg [
 O 26 (.bin .eql (.t 18) (.c (I 1))),
 O 25 (.mov (.t 26))] [18, 26]) (
 .cond (.t 25) (.exit 4)
 (.skip)))))) (
 .exit 0))) (
 sq (.reg [
 O 27 (.mov (.t 5)),
 O 28 (.call 0 66 [(.t 27)])] [5, 27]) (
 .cond (.t 28) (sq (.reg [
 O 4 (.mov (.c (I 4380)))] []) (
 .ret))
 (.skip))))) (
 sq (sq (.reg [
 O 4 (.mov (.c (I 4392)))] []) (
 .ret)) (
 .exit 0)))) (
 .reg [
 O 29 (.mov (.t 1)),
 O 30 (.mov (.t 1)),
 O 31 (.bin .add (.t 30) (.c (I 1))),
 O 32 (.call 0 67 [(.t 29), (.t 31)]),
 O 8 (.mov (.t 32))] [32, 31, 30, 1, 29]))) (
 sq (sq (.reg [
 O 33 (.mov (.t 8)),
 O 34 (.bin .mul (.t 33) (.c (I 4453))),
 O 4 (.mov (.t 34))] [34, 8, 33]) (
 .ret)) (
 .exit 0))))) (
 sq (.reg [
 O 4 (.mov (.c (I 0)))] []) (
 .ret))))))⟩
def F55 : PF := ⟨1, [.c 2 (K1 2)],
 sq (.reg [
 O 1 (.box (K1 2) (.t 0)),
 O 2 (.alloc (K1 2) (.a [(.i .u64 0), (.i .u64 0)]))] [0]) (
 sq (sq (.reg [
 O 3 (.faddr 0 (.t 1)),
 O 4 (.load K0 (.t 3)),
 O 5 (.bin .lss (.t 4) (.c (I 0)))] [4, 3]) (
 .cond (.t 5) (.reg [
 O 6 (.load (K1 2) (.t 1)),
 O 7 (.call 0 49 [(.t 6)]),
 E (.store (K1 2) (.t 1) (.t 7))] [7, 6])
 (.skip))) (
 sq (.reg [
 O 8 (.faddr 0 (.t 1)),
 O 9 (.load K0 (.t 8)),
 O 10 (.conv .u64 (.t 9)),
 O 11 (.faddr 1 (.t 1)),
 O 12 (.load K0 (.t 11)),
 O 13 (.agg [(.i .u64 0), (.i .u64 0)] [(0, K0, (.t 10)), (1, K0, (.t 12))]),
 E (.store (K1 2) (.t 2) (.t 13))] [13, 12, 11, 10, 9, 1, 8]) (
 .ret)))⟩
def F56 : PF := ⟨2, [.c 4 (K1 2), .t 5],
 sq (.reg [
 O 2 (.box (K1 2) (.t 0)),
 O 4 (.alloc (K1 2) (.a [(.i .u64 0), (.i .u64 0)])),
 O 5 (.mov (.c (.i .u64 0)))] [5, 0]) (
 sq (.regD [
 O 9 (.faddr 0 (.t 2)),
 O 10 (.load K0 (.t 9)),
 O 11 (.mov (.t 1)),
 O 12 (.bin .rem (.t 10) (.t 11)),
 O 13 (.faddr 1 (.t 2)),
 O 14 (.load K0 (.t 13)),
 O 15 (.mov (.t 1)),
 O 16 (.call 0 68 [(.t 12), (.t 14), (.t 15)]),
 O 8 (.mov (.t 16)),
 O 17 (.ext (.t 8) 0),
 O 18 (.ext (.t 8) 1),
 O 6 (.mov (.t 17)),
 O 7 (.mov (.t 18))] [0, 1, 0, 7, 0, 16, 0, 127, 255, 511, 511, 1023, 4095] [18, 17, 8, 16, 15, 14, 13, 12, 11, 10, 9]) (
 sq (.reg [
 O 19 (.faddr 0 (.t 2)),
 O 20 (.load K0 (.t 19)),
 O 21 (.mov (.t 1)),
 O 22 (.bin .quo (.t 20) (.t 21)),
 O 23 (.mov (.t 6)),
 O 24 (.agg [(.i .u64 0), (.i .u64 0)] [(0, K0, (.t 22)), (1, K0, (.t 23))]),
 O 25 (.mov (.t 7)),
 E (.store (K1 2) (.t 4) (.t 24)),
 O 5 (.mov (.t 25))] [7, 25, 24, 6, 23, 22, 1, 21, 20, 2, 19]) (
 .ret)))⟩
def F57 : PF := ⟨3, [.c 6 (K1 2), .t 7],
 sq (.reg [
 O 3 (.box (K1 2) (.t 0)),
 O 6 (.alloc (K1 2) (.a [(.i .u64 0), (.i .u64 0)])),
 O 7 (.mov (.c (.b false)))] [7, 0]) (
 sq (.reg [
 O 14 (.faddr 1 (.t 3)),
 O 15 (.load K0 (.t 14)),
 O 16 (.mov (.t 1)),
 O 17 (.call 0 47 [(.t 15), (.t 16)]),
 O 13 (.mov (.t 17)),
 O 18 (.ext (.t 13) 0),
 O 19 (.ext (.t 13) 1),
 O 8 (.mov (.t 18)),
 O 9 (.mov (.t 19))] [19, 18, 13, 17, 16, 15, 14]) (
 sq (.reg [
 O 21 (.faddr 0 (.t 3)),
 O 22 (.load K0 (.t 21)),
 O 23 (.mov (.t 1)),
 O 24 (.call 0 47 [(.t 22), (.t 23)]),
 O 20 (.mov (.t 24)),
 O 25 (.ext (.t 20) 0),
 O 26 (.ext (.t 20) 1),
 O 10 (.mov (.t 25)),
 O 11 (.mov (.t 26))] [26, 25, 20, 24, 1, 23, 22, 3, 21]) (
 sq (.reg [
 O 28 (.mov (.t 9)),
 O 29 (.mov (.t 2)),
 O 30 (.prim 0 [(.t 28), (.t 29), (.c (.i .u64 0))]),
 O 27 (.mov (.t 30)),
 O 31 (.ext (.t 27) 0),
 O 32 (.ext (.t 27) 1),
 O 9 (.mov (.t 31)),
 O 12 (.mov (.t 32))] [32, 31, 27, 30, 2, 29, 28]) (
 sq (.reg [
 O 33 (.mov (.t 8)),
 O 34 (.mov (.t 12)),
 O 35 (.bin .add (.t 33) (.t 34)),
 O 8 (.mov (.t 35))] [35, 12, 34, 33]) (
 sq (.reg [
 O 37 (.mov (.t 11)),
 O 38 (.mov (.t 8)),
 O 39 (.prim 0 [(.t 37), (.t 38), (.c (.i .u64 0))]),
 O 36 (.mov (.t 39)),
 O 40 (.ext (.t 36) 0),
 O 41 (.ext (.t 36) 1),
 O 11 (.mov (.t 40)),
 O 12 (.mov (.t 41))] [41, 40, 36, 39, 8, 38, 37]) (
 sq (.reg [
 O 42 (.mov (.t 11)),
 O 43 (.mov (.t 9)),
 O 44 (.agg [(.i .u64 0), (.i .u64 0)] [(0, K0, (.t 42)), (1, K0, (.t 43))]),
 O 45 (.mov (.t 10)),
 O 46 (.bin .eql (.t 45) (.c (.i .u64 0))),
 O 47 (.mov (.t 46)),
 OG 48 47 true (.mov (.t 12)),
 OG 49 47 true (.bin .eql (.t 48) (.c (.i .u64 0))),
 O 50 (.pick (.t 47) (.t 49) (.c (.b false))),
 E (.store (K1 2) (.t 6) (.t 44)),
 O 7 (.mov (.t 50))] [50, 49, 12, 48, 47, 46, 10, 45, 44, 9, 43, 11, 42]) (
 .ret)))))))⟩
def F58 : PF := ⟨2, [.c 4 (K1 2), .t 5],
 sq (.reg [
 O 2 (.box (K1 2) (.t 0)),
 O 4 (.alloc (K1 2) (.a [(I 0), (.i .u64 0)])),
 O 5 (.mov (.c (I 0)))] [5, 0]) (
 sq (sq (.reg [
 O 7 (.faddr 0 (.t 2)),
 O 8 (.load K0 (.t 7)),
 O 9 (.bin .gtr (.t 8) (.c (.i .u64 9223372036854775808))),
 O 10 (.mov (.t 9)),
 OG 11 10 false (.faddr 0 (.t 2)),
 OG 12 10 false (.load K0 (.t 11)),
 OG 13 10 false (.bin .eql (.t 12) (.c (.i .u64 9223372036854775808))),
 OG 14 10 false (.mov (.t 13)),
 OG 15 14 true (.mov (.t 1)),
 OG 16 14 true (.un .not (.t 15)),
 OG 17 14 true (.mov (.t 16)),
 OG 18 17 false (.faddr 1 (.t 2)),
 OG 19 17 false (.load K0 (.t 18)),
 OG 20 17 false (.bin .gtr (.t 19) (.c (.i .u64 0))),
 OG 21 14 true (.pick (.t 17) (.c (.b true)) (.t 20)),
 OG 22 10 false (.pick (.t 14) (.t 21) (.c (.b false))),
 O 23 (.pick (.t 10) (.c (.b true)) (.t 22))] [22, 21, 20, 19, 18, 17, 16, 15, 14, 13, 12, 11, 10, 9, 8, 7]) (
 .cond (.t 23) (sq (.reg [
 O 24 (.agg [(I 0), (.i .u64 0)] []),
 E (.store (K1 2) (.t 4) (.t 24)),
 O 5 (.mov (.c (I 6)))] [24]) (
 .ret))
 (.skip))) (
 sq (.reg [
 O 25 (.faddr 0 (.t 2)),
 O 26 (.load K0 (.t 25)),
 O 27 (.conv .i64 (.t 26)),
 O 28 (.faddr 1 (.t 2)),
 O 29 (.load K0 (.t 28)),
 O 30 (.agg [(I 0), (.i .u64 0)] [(0, K0, (.t 27)), (1, K0, (.t 29))]),
 O 6 (.alloc (K1 2) (.a [(I 0), (.i .u64 0)])),
 E (.store (K1 2) (.t 6) (.t 30))] [30, 29, 28, 27, 26, 2, 25]) (
 sq (sq (.reg [
 O 31 (.mov (.t 1))] [1]) (
 .cond (.t 31) (.reg [
 O 32 (.load (K1 2) (.t 6)),
 O 33 (.call 0 49 [(.t 32)]),
 E (.store (K1 2) (.t 6) (.t 33))] [33, 32])
 (.skip))) (
 sq (.reg [
 O 34 (.load (K1 2) (.t 6)),
 E (.store (K1 2) (.t 4) (.t 34)),
 O 5 (.mov (.c (I 0)))] [6, 34]) (
 .ret)))))⟩
def L59_0 : PC :=
 sq (.reg [
 O 18 (.bin .lss (.t 17) (.t 16))] []) (
 sq (.cond (.t 18) (.skip)
 (.exit 2)) (
 sq (.block 3 (
 sq (.reg [
 O 19 (.iaddr (K1 3) (.t 15) (.t 17)),
 O 20 (.load (K1 3) (.t 19)),
 O 7 (.alloc (K1 3) (.a [(I 0), (I 0), (.s [])])),
 E (.store (K1 3) (.t 7) (.t 20))] [20, 19]) (
 sq (.reg [
 O 21 (.faddr 0 (.t 7)),
 O 22 (.load K0 (.t 21)),
 O 23 (.load K0 (.t 2)),
 O 24 (.bin .eql (.t 22) (.t 23)),
 O 25 (.mov (.t 24)),
 OG 26 25 true (.mov (.t 0)),
 OG 27 25 true (.load (K1 10) (.t 5)),
 OG 28 25 true (.faddr 1 (.t 7)),
 OG 29 25 true (.load K0 (.t 28)),
 OG 30 25 true (.callv (.t 26) [(.t 27), (.t 29)]),
 OG 31 25 true (.un .not (.t 30)),
 O 32 (.pick (.t 25) (.t 31) (.c (.b false)))] [31, 30, 29, 28, 27, 26, 25, 24, 23, 22, 7, 21]) (
 .cond (.t 32) (.ret)
 (.skip))))) (
 .reg [
 O 33 (.bin .add (.t 17) (.c (I 1))),
 O 17 (.mov (.t 33))] [33])))
def L59_1 : PC :=
 sq (.reg [
 O 11 (.bin .lss (.t 10) (.t 9))] []) (
 sq (.cond (.t 11) (.skip)
 (.exit 0)) (
 sq (.block 1 (
 sq (.reg [
 O 12 (.iaddr (K1 10) (.t 8) (.t 10)),
 O 13 (.load (K1 10) (.t 12)),
 O 5 (.alloc (K1 10) (.a [(I 0), (I 0), (I 0), (I 0), (I 0), (I 0), (.s []), (.s []), (.l (K1 3) [] true), (.i .u64 0)])),
 E (.store (K1 10) (.t 5) (.t 13))] [13, 12]) (
 sq (.reg [
 O 14 (.faddr 8 (.t 5)),
 O 15 (.load K0 (.t 14)),
 O 16 (.len false (.t 15)),
 O 17 (.mov (.c (I 0)))] [14]) (
 .block 2 (
 .loop [0, 2, 5, 8, 9, 10, 15, 16, 17] L59_0))))) (
 .reg [
 O 34 (.bin .add (.t 10) (.c (I 1))),
 O 10 (.mov (.t 34))] [34])))
def F59 : PF := ⟨3, [],
 sq (.reg [
 O 8 (.load K0 (.t 1)),
 O 9 (.len false (.t 8)),
 O 10 (.mov (.c (I 0)))] [1]) (
 .block 0 (
 .loop [0, 2, 8, 9, 10] L59_1))⟩
def F61 : PF := ⟨1, [.t 2],
 sq (.reg [
 O 2 (.mov (.c (I 0)))] [2]) (
 sq (sq (.reg [
 O 3 (.mov (.t 0)),
 O 4 (.bin .lss (.t 3) (.c (I (-9223372036854775807))))] [3]) (
 .cond (.t 4) (sq (.reg [
 O 2 (.mov (.c (I 9223372036854775807)))] []) (
 .ret))
 (.skip))) (
 sq (.reg [
 O 5 (.mov (.t 0)),
 O 6 (.mov (.t 0)),
 O 7 (.un .neg (.t 6)),
 O 8 (.minmax true [(.t 5), (.t 7)]),
 O 2 (.mov (.t 8))] [8, 7, 6, 0, 5]) (
 .ret)))⟩
def L62_0 : PC :=
 sq (.reg [
 O 11 (.bin .lss (.t 10) (.t 9))] []) (
 sq (.cond (.t 11) (.skip)
 (.exit 0)) (
 sq (.block 1 (
 sq (.reg [
 O 12 (.iaddr (K1 2) (.t 8) (.t 10)),
 O 13 (.load (K1 2) (.t 12)),
 O 4 (.alloc (K1 2) (.a [(I 0), (I 0)])),
 E (.store (K1 2) (.t 4) (.t 13))] [13, 12]) (
 sq (.reg [
 O 14 (.faddr 0 (.t 4)),
 O 15 (.load K0 (.t 14)),
 O 16 (.bin .lss (.t 15) (.c (I 0))),
 O 17 (.mov (.t 16)),
 OG 18 17 false (.faddr 0 (.t 4)),
 OG 19 17 false (.load K0 (.t 18)),
 OG 20 17 false (.bin .gtr (.t 19) (.c (I 1000000000000))),
 O 21 (.pick (.t 17) (.c (.b true)) (.t 20)),
 O 22 (.mov (.t 21)),
 OG 23 22 false (.faddr 1 (.t 4)),
 OG 24 22 false (.load K0 (.t 23)),
 OG 25 22 false (.bin .lss (.t 24) (.c (I 0))),
 O 26 (.pick (.t 22) (.c (.b true)) (.t 25)),
 O 27 (.mov (.t 26)),
 OG 28 27 false (.faddr 1 (.t 4)),
 OG 29 27 false (.load K0 (.t 28)),
 OG 30 27 false (.bin .gtr (.t 29) (.c (I 1000000))),
 O 31 (.pick (.t 27) (.c (.b true)) (.t 30))] [30, 29, 28, 27, 26, 25, 24, 23, 22, 21, 20, 19, 18, 17, 16, 15, 4, 14]) (
 .cond (.t 31) (sq (.reg [
 O 2 (.mov (.c (I 1)))] []) (
 .ret))
 (.skip))))) (
 .reg [
 O 32 (.bin .add (.t 10) (.c (I 1))),
 O 10 (.mov (.t 32))] [32])))
def F62 : PF := ⟨1, [.t 2],
 sq (.reg [
 O 2 (.mov (.c (I 0)))] [2]) (
 sq (sq (.reg [
 O 5 (.mov (.t 0)),
 O 6 (.len false (.t 5)),
 O 7 (.bin .gtr (.t 6) (.c (I 6)))] [6, 5]) (
 .cond (.t 7) (sq (.reg [
 O 2 (.mov (.c (I 5)))] []) (
 .ret))
 (.skip))) (
 sq (sq (.reg [
 O 8 (.mov (.t 0)),
 O 9 (.len false (.t 8)),
 O 10 (.mov (.c (I 0)))] []) (
 .block 0 (
 .loop [0, 8, 9, 10] L62_0))) (
 sq (sq (.reg [
 O 33 (.mov (.t 0)),
 O 34 (.call 2 69 [(.t 33), (.f 70)]),
 O 35 (.un .not (.t 34))] [34, 33]) (
 .cond (.t 35) (sq (.reg [
 O 2 (.mov (.c (I 10)))] []) (
 .ret))
 (.skip))) (
 sq (sq (.reg [
 O 36 (.mov (.t 0)),
 O 37 (.len false (.t 36)),
 O 38 (.bin .gtr (.t 37) (.c (I 0))),
 O 39 (.mov (.t 38)),
 OG 40 39 true (.mov (.t 0)),
 OG 41 39 true (.iaddr (K1 2) (.t 40) (.c (I 0))),
 OG 42 39 true (.faddr 0 (.t 41)),
 OG 43 39 true (.load K0 (.t 42)),
 OG 44 39 true (.bin .neq (.t 43) (.c (I 0))),
 O 45 (.pick (.t 39) (.t 44) (.c (.b false)))] [44, 43, 42, 41, 40, 39, 38, 37, 0, 36]) (
 .cond (.t 45) (sq (.reg [
 O 2 (.mov (.c (I 1)))] []) (
 .ret))
 (.skip))) (
 sq (.reg [
 O 2 (.mov (.c (I 0)))] []) (
 .ret))))))⟩
def L63_0 : PC :=
 sq (.reg [
 O 14 (.bin .lss (.t 13) (.t 12))] []) (
 sq (.cond (.t 14) (.skip)
 (.exit 0)) (
 sq (.block 1 (
 sq (.reg [
 O 15 (.iaddr (K1 2) (.t 11) (.t 13)),
 O 16 (.load (K1 2) (.t 15)),
 O 7 (.alloc (K1 2) (.a [(I 0), (I 0)])),
 E (.store (K1 2) (.t 7) (.t 16))] [16, 15]) (
 sq (.regD [
 O 17 (.faddr 0 (.t 7)),
 O 18 (.load K0 (.t 17)),
 O 19 (.mov (.t 1)),
 O 20 (.call 0 61 [(.t 19)]),
 O 21 (.bin .leq (.t 18) (.t 20))] [0, 1, 0, 4, 15] [20, 19, 18, 17]) (
 .cond (.t 21) (.reg [
 O 22 (.faddr 1 (.t 7)),
 O 23 (.load K0 (.t 22)),
 O 5 (.mov (.t 23))] [23, 7, 22])
 (.skip))))) (
 .reg [
 O 24 (.bin .add (.t 13) (.c (I 1))),
 O 13 (.mov (.t 24))] [24])))
def F63 : PF := ⟨2, [.t 4],
 sq (.reg [
 O 4 (.mov (.c (I 0)))] [4]) (
 sq (sq (.reg [
 O 8 (.mov (.t 0)),
 O 9 (.call 0 62 [(.t 8)]),
 O 10 (.bin .neq (.t 9) (.c (I 0)))] [9, 8]) (
 .cond (.t 10) (sq (.reg [
 O 4 (.mov (.c (I 0)))] []) (
 .ret))
 (.skip))) (
 sq (.reg [
 O 5 (.mov (.c (I 0)))] []) (
 sq (sq (.reg [
 O 11 (.mov (.t 0)),
 O 12 (.len false (.t 11)),
 O 13 (.mov (.c (I 0)))] [0]) (
 .block 0 (
 .loop [1, 5, 11, 12, 13] L63_0))) (
 sq (.reg [
 O 25 (.mov (.t 5)),
 O 4 (.mov (.t 25))] [5, 25]) (
 .ret)))))⟩
def F64 : PF := ⟨2, [.c 4 (K1 2), .t 5],
 sq (.reg [
 O 2 (.box (K1 2) (.t 0)),
 O 4 (.alloc (K1 2) (.a [(I 0), (.i .u64 0)])),
 O 5 (.mov (.c (I 0)))] [5, 0]) (
 sq (.reg [
 O 9 (.load (K1 2) (.t 2)),
 O 10 (.call 0 55 [(.t 9)]),
 O 11 (.mov (.t 1)),
 O 12 (.call 0 48 [(.t 11)]),
 O 13 (.call 0 57 [(.t 10), (.t 12), (.c (.i .u64 0))]),
 O 8 (.mov (.t 13)),
 O 14 (.ext (.t 8) 0),
 O 15 (.ext (.t 8) 1),
 O 6 (.alloc (K1 2) (.a [(.i .u64 0), (.i .u64 0)])),
 E (.store (K1 2) (.t 6) (.t 14)),
 O 7 (.mov (.t 15))] [15, 14, 8, 13, 12, 11, 10, 9]) (
 sq (sq (.reg [
 O 16 (.mov (.t 7)),
 O 17 (.un .not (.t 16))] [7, 16]) (
 .cond (.t 17) (sq (.reg [
 O 18 (.agg [(I 0), (.i .u64 0)] []),
 E (.store (K1 2) (.t 4) (.t 18)),
 O 5 (.mov (.c (I 6)))] [18]) (
 .ret))
 (.skip))) (
 sq (.regD [
 O 19 (.load (K1 2) (.t 6)),
 O 20 (.faddr 0 (.t 2)),
 O 21 (.load K0 (.t 20)),
 O 22 (.bin .lss (.t 21) (.c (I 0))),
 O 23 (.mov (.t 1)),
 O 24 (.bin .lss (.t 23) (.c (I 0))),
 O 25 (.eqb true (.t 22) (.t 24)),
 O 26 (.mov (.t 25)),
 OG 27 26 true (.load (K1 2) (.t 6)),
 OG 28 26 true (.agg [(.i .u64 0), (.i .u64 0)] []),
 OG 29 26 true (.eqv true [1, 1] (.t 27) (.t 28)),
 O 30 (.pick (.t 26) (.t 29) (.c (.b false))),
 O 31 (.call 0 58 [(.t 19), (.t 30)]),
 O 32 (.ext (.t 31) 0),
 O 33 (.ext (.t 31) 1),
 E (.store (K1 2) (.t 4) (.t 32)),
 O 5 (.mov (.t 33))] [0, 0, 2, 6, 0, 16, 62, 126, 254, 254, 1022, 2046, 4095, 8191, 8191, 32767, 65535] [33, 32, 31, 30, 29, 28, 27, 26, 25, 24, 1, 23, 22, 21, 2, 20, 6, 19]) (
 .ret))))⟩
def L65_0 : PC :=
 sq (sq (.reg [
 O 13 (.mov (.t 5)),
 O 14 (.bin .add (.t 13) (.c (I 1))),
 O 15 (.call 0 71 [(.t 14)]),
 O 16 (.mov (.t 0)),
 O 17 (.bin .leq (.t 15) (.t 16))] [16, 15, 14, 13]) (
 .cond (.t 17) (.skip)
 (.exit 0))) (
 .block 1 (
 .reg [
 O 18 (.mov (.t 5)),
 O 19 (.bin .add (.t 18) (.c (I 1))),
 O 5 (.mov (.t 19))] [19, 18]))
def L65_1 : PC :=
 sq (sq (.reg [
 O 24 (.mov (.t 0)),
 O 25 (.mov (.t 5)),
 O 26 (.mov (.t 6)),
 O 27 (.call 0 72 [(.t 25), (.t 26)]),
 O 28 (.bin .geq (.t 24) (.t 27))] [27, 26, 25, 24]) (
 .cond (.t 28) (.skip)
 (.exit 2))) (
 .block 3 (
 sq (.reg [
 O 29 (.mov (.t 0)),
 O 30 (.mov (.t 5)),
 O 31 (.mov (.t 6)),
 O 32 (.call 0 72 [(.t 30), (.t 31)]),
 O 33 (.bin .sub (.t 29) (.t 32)),
 O 0 (.mov (.t 33))] [33, 32, 31, 30, 29]) (
 .reg [
 O 34 (.mov (.t 6)),
 O 35 (.bin .add (.t 34) (.c (I 1))),
 O 6 (.mov (.t 35))] [35, 34])))
def F65 : PF := ⟨1, [.t 2, .t 3, .t 4],
 sq (.reg [
 O 2 (.mov (.c (I 0))),
 O 3 (.mov (.c (I 0))),
 O 4 (.mov (.c (I 0)))] [4, 3, 2]) (
 sq (sq (.reg [
 O 7 (.mov (.t 0)),
 O 8 (.call 0 22 [(.t 7)]),
 O 9 (.un .not (.t 8))] [8, 7]) (
 .cond (.t 9) (sq (.reg [
 O 2 (.mov (.c (I 0))),
 O 3 (.mov (.c (I 0))),
 O 4 (.mov (.c (I 0)))] []) (
 .ret))
 (.skip))) (
 sq (.reg [
 O 10 (.mov (.t 0)),
 O 11 (.bin .quo (.t 10) (.c (I 366))),
 O 12 (.bin .add (.c (I 2000)) (.t 11)),
 O 5 (.mov (.t 12))] [12, 11, 10]) (
 sq (.block 0 (
 .loop [0, 5] L65_0)) (
 sq (.reg [
 O 20 (.mov (.t 0)),
 O 21 (.mov (.t 5)),
 O 22 (.call 0 71 [(.t 21)]),
 O 23 (.bin .sub (.t 20) (.t 22)),
 O 0 (.mov (.t 23))] [23, 22, 21, 20]) (
 sq (.reg [
 O 6 (.mov (.c (I 1)))] []) (
 sq (.block 2 (
 .loop [0, 5, 6] L65_1)) (
 sq (.reg [
 O 36 (.mov (.t 5)),
 O 37 (.mov (.t 6)),
 O 38 (.mov (.t 0)),
 O 39 (.bin .add (.t 38) (.c (I 1))),
 O 2 (.mov (.t 36)),
 O 3 (.mov (.t 37)),
 O 4 (.mov (.t 39))] [39, 0, 38, 6, 37, 5, 36]) (
 .ret))))))))⟩
def F66 : PF := ⟨1, [.t 2],
 sq (.reg [
 O 2 (.mov (.c (.b false)))] [2]) (
 sq (.reg [
 O 3 (.mov (.t 0)),
 O 4 (.bin .rem (.t 3) (.c (I 4))),
 O 5 (.bin .eql (.t 4) (.c (I 0))),
 O 6 (.mov (.t 5)),
 OG 7 6 true (.mov (.t 0)),
 OG 8 6 true (.bin .rem (.t 7) (.c (I 100))),
 OG 9 6 true (.bin .neq (.t 8) (.c (I 0))),
 OG 10 6 true (.mov (.t 9)),
 OG 11 10 false (.mov (.t 0)),
 OG 12 10 false (.bin .rem (.t 11) (.c (I 400))),
 OG 13 10 false (.bin .eql (.t 12) (.c (I 0))),
 OG 14 6 true (.pick (.t 10) (.c (.b true)) (.t 13)),
 O 15 (.pick (.t 6) (.t 14) (.c (.b false))),
 O 2 (.mov (.t 15))] [15, 14, 13, 12, 11, 10, 9, 8, 7, 6, 5, 4, 0, 3]) (
 .ret))⟩
def L68_0 : PC :=
 sq (sq (.reg [
 O 67 (.mov (.t 15)),
 O 68 (.bin .geq (.t 67) (.c (.i .u64 4294967296))),
 O 69 (.mov (.t 68)),
 OG 70 69 false (.mov (.t 15)),
 OG 71 69 false (.mov (.t 10)),
 OG 72 69 false (.bin .mul (.t 70) (.t 71)),
 OG 73 69 false (.mov (.t 16)),
 OG 74 69 false (.bin .mul (.c (.i .u64 4294967296)) (.t 73)),
 OG 75 69 false (.mov (.t 13)),
 OG 76 69 false (.bin .add (.t 74) (.t 75)),
 OG 77 69 false (.bin .gtr (.t 72) (.t 76)),
 O 78 (.pick (.t 69) (.c (.b true)) (.t 77))] [77, 76, 75, 74, 73, 72, 71, 70, 69, 68, 67]) (
 .cond (.t 78) (.skip)
 (.exit 0))) (
 .block 1 (
 sq (.reg [
 O 79 (.mov (.t 15)),
 O 80 (.bin .sub (.t 79) (.c (.i .u64 1))),
 O 15 (.mov (.t 80))] [80, 79]) (
 sq (.reg [
 O 81 (.mov (.t 16)),
 O 82 (.mov (.t 9)),
 O 83 (.bin .add (.t 81) (.t 82)),
 O 16 (.mov (.t 83))] [83, 82, 81]) (
 sq (.reg [
 O 84 (.mov (.t 16)),
 O 85 (.bin .geq (.t 84) (.c (.i .u64 4294967296)))] [84]) (
 .cond (.t 85) (.exit 0)
 (.skip))))))
def L68_1 : PC :=
 sq (sq (.reg [
 O 102 (.mov (.t 18)),
 O 103 (.bin .geq (.t 102) (.c (.i .u64 4294967296))),
 O 104 (.mov (.t 103)),
 OG 105 104 false (.mov (.t 18)),
 OG 106 104 false (.mov (.t 10)),
 OG 107 104 false (.bin .mul (.t 105) (.t 106)),
 OG 108 104 false (.mov (.t 16)),
 OG 109 104 false (.bin .mul (.c (.i .u64 4294967296)) (.t 108)),
 OG 110 104 false (.mov (.t 14)),
 OG 111 104 false (.bin .add (.t 109) (.t 110)),
 OG 112 104 false (.bin .gtr (.t 107) (.t 111)),
 O 113 (.pick (.t 104) (.c (.b true)) (.t 112))] [112, 111, 110, 109, 108, 107, 106, 105, 104, 103, 102]) (
 .cond (.t 113) (.skip)
 (.exit 2))) (
 .block 3 (
 sq (.reg [
 O 114 (.mov (.t 18)),
 O 115 (.bin .sub (.t 114) (.c (.i .u64 1))),
 O 18 (.mov (.t 115))] [115, 114]) (
 sq (.reg [
 O 116 (.mov (.t 16)),
 O 117 (.mov (.t 9)),
 O 118 (.bin .add (.t 116) (.t 117)),
 O 16 (.mov (.t 118))] [118, 117, 116]) (
 sq (.reg [
 O 119 (.mov (.t 16)),
 O 120 (.bin .geq (.t 119) (.c (.i .u64 4294967296)))] [119]) (
 .cond (.t 120) (.exit 2)
 (.skip))))))
def F68 : PF := ⟨3, [.t 6, .t 7],
 sq (.reg [
 O 6 (.mov (.c (.i .u64 0))),
 O 7 (.mov (.c (.i .u64 0)))] [7, 6]) (
 sq (sq (.reg [
 O 19 (.mov (.t 2)),
 O 20 (.bin .eql (.t 19) (.c (.i .u64 0)))] [19]) (
 .cond (.t 20) (.reg [
 O 21 (.load K0 (.g 106)),
 E (.bad)] [21])
 (.skip))) (
 sq (sq (.reg [
 O 22 (.mov (.t 2)),
 O 23 (.mov (.t 0)),
 O 24 (.bin .leq (.t 22) (.t 23))] [23, 22]) (
 .cond (.t 24) (.reg [
 O 25 (.load K0 (.g 107)),
 E (.bad)] [25])
 (.skip))) (
 sq (sq (.reg [
 O 26 (.mov (.t 0)),
 O 27 (.bin .eql (.t 26) (.c (.i .u64 0)))] [26]) (
 .cond (.t 27) (sq (.regD [
 O 28 (.mov (.t 1)),
 O 29 (.mov (.t 2)),
 O 30 (.bin .quo (.t 28) (.t 29)),
 O 31 (.mov (.t 1)),
 O 32 (.mov (.t 2)),
 O 33 (.bin .rem (.t 31) (.t 32)),
 O 6 (.mov (.t 30)),
 O 7 (.mov (.t 33))] [0, 0, 3, 0, 0, 24, 7, 127] [33, 32, 31, 30, 2, 29, 1, 28]) (
 .ret))
 (.skip))) (
 sq (.reg [
 O 34 (.mov (.t 2)),
 O 35 (.call 0 73 [(.t 34)]),
 O 36 (.conv .u64 (.t 35)),
 O 8 (.mov (.t 36))] [36, 35, 34]) (
 sq (.reg [
 O 37 (.mov (.t 2)),
 O 38 (.mov (.t 8)),
 O 39 (.bin .shl (.t 37) (.t 38)),
 O 2 (.mov (.t 39))] [39, 38, 37]) (
 sq (.reg [
 O 40 (.mov (.t 2)),
 O 41 (.bin .shr (.t 40) (.c (.i .u64 32))),
 O 9 (.mov (.t 41))] [41, 40]) (
 sq (.reg [
 O 42 (.mov (.t 2)),
 O 43 (.bin .and (.t 42) (.c (.i .u64 4294967295))),
 O 10 (.mov (.t 43))] [43, 42]) (
 sq (.reg [
 O 44 (.mov (.t 0)),
 O 45 (.mov (.t 8)),
 O 46 (.bin .shl (.t 44) (.t 45)),
 O 47 (.mov (.t 1)),
 O 48 (.mov (.t 8)),
 O 49 (.bin .sub (.c (.i .u64 64)) (.t 48)),
 O 50 (.bin .shr (.t 47) (.t 49)),
 O 51 (.bin .or (.t 46) (.t 50)),
 O 11 (.mov (.t 51))] [51, 50, 49, 48, 47, 46, 45, 0, 44]) (
 sq (.reg [
 O 52 (.mov (.t 1)),
 O 53 (.mov (.t 8)),
 O 54 (.bin .shl (.t 52) (.t 53)),
 O 12 (.mov (.t 54))] [54, 53, 1, 52]) (
 sq (.reg [
 O 55 (.mov (.t 12)),
 O 56 (.bin .shr (.t 55) (.c (.i .u64 32))),
 O 13 (.mov (.t 56))] [56, 55]) (
 sq (.reg [
 O 57 (.mov (.t 12)),
 O 58 (.bin .and (.t 57) (.c (.i .u64 4294967295))),
 O 14 (.mov (.t 58))] [58, 12, 57]) (
 sq (.reg [
 O 59 (.mov (.t 11)),
 O 60 (.mov (.t 9)),
 O 61 (.bin .quo (.t 59) (.t 60)),
 O 15 (.mov (.t 61))] [61, 60, 59]) (
 sq (.reg [
 O 62 (.mov (.t 11)),
 O 63 (.mov (.t 15)),
 O 64 (.mov (.t 9)),
 O 65 (.bin .mul (.t 63) (.t 64)),
 O 66 (.bin .sub (.t 62) (.t 65)),
 O 16 (.mov (.t 66))] [66, 65, 64, 63, 62]) (
 sq (.block 0 (
 .loop [2, 8, 9, 10, 11, 13, 14, 15, 16] L68_0)) (
 sq (.reg [
 O 86 (.mov (.t 11)),
 O 87 (.bin .mul (.t 86) (.c (.i .u64 4294967296))),
 O 88 (.mov (.t 13)),
 O 89 (.bin .add (.t 87) (.t 88)),
 O 90 (.mov (.t 15)),
 O 91 (.mov (.t 2)),
 O 92 (.bin .mul (.t 90) (.t 91)),
 O 93 (.bin .sub (.t 89) (.t 92)),
 O 17 (.mov (.t 93))] [93, 92, 91, 90, 89, 13, 88, 87, 11, 86]) (
 sq (.reg [
 O 94 (.mov (.t 17)),
 O 95 (.mov (.t 9)),
 O 96 (.bin .quo (.t 94) (.t 95)),
 O 18 (.mov (.t 96))] [96, 95, 94]) (
 sq (.reg [
 O 97 (.mov (.t 17)),
 O 98 (.mov (.t 18)),
 O 99 (.mov (.t 9)),
 O 100 (.bin .mul (.t 98) (.t 99)),
 O 101 (.bin .sub (.t 97) (.t 100)),
 O 16 (.mov (.t 101))] [101, 100, 99, 98, 97]) (
 sq (.block 2 (
 .loop [2, 8, 9, 10, 14, 15, 16, 17, 18] L68_1)) (
 sq (.reg [
 O 121 (.mov (.t 15)),
 O 122 (.bin .mul (.t 121) (.c (.i .u64 4294967296))),
 O 123 (.mov (.t 18)),
 O 124 (.bin .add (.t 122) (.t 123)),
 O 125 (.mov (.t 17)),
 O 126 (.bin .mul (.t 125) (.c (.i .u64 4294967296))),
 O 127 (.mov (.t 14)),
 O 128 (.bin .add (.t 126) (.t 127)),
 O 129 (.mov (.t 18)),
 O 130 (.mov (.t 2)),
 O 131 (.bin .mul (.t 129) (.t 130)),
 O 132 (.bin .sub (.t 128) (.t 131)),
 O 133 (.mov (.t 8)),
 O 134 (.bin .shr (.t 132) (.t 133)),
 O 6 (.mov (.t 124)),
 O 7 (.mov (.t 134))] [134, 8, 133, 132, 131, 2, 130, 129, 128, 14, 127, 126, 17, 125, 124, 18, 123, 122, 15, 121]) (
 .ret))))))))))))))))))))⟩
def L69_0 : PC :=
 sq (sq (.reg [
 O 6 (.mov (.t 5)),
 O 7 (.mov (.t 0)),
 O 8 (.len false (.t 7)),
 O 9 (.bin .lss (.t 6) (.t 8))] [8, 7, 6]) (
 .cond (.t 9) (.skip)
 (.exit 0))) (
 sq (.block 1 (
 sq (.regD [
 O 12 (.mov (.t 1)),
 O 13 (.mov (.t 0)),
 O 14 (.mov (.t 5)),
 O 15 (.iaddr (K1 2) (.t 13) (.t 14)),
 O 16 (.load (K1 2) (.t 15)),
 O 17 (.callv (.t 12) [(.t 16)]),
 O 18 (.mov (.t 1)),
 O 19 (.mov (.t 0)),
 O 20 (.mov (.t 5)),
 O 21 (.bin .sub (.t 20) (.c (I 1))),
 O 22 (.iaddr (K1 2) (.t 19) (.t 21)),
 O 23 (.load (K1 2) (.t 22)),
 O 24 (.callv (.t 18) [(.t 23)]),
 O 25 (.bin .leq (.t 17) (.t 24))] [0, 0, 0, 6, 14, 31, 0, 0, 0, 256, 896, 1920, 4095, 8191] [24, 23, 22, 21, 20, 19, 18, 17, 16, 15, 14, 13, 12]) (
 .cond (.t 25) (sq (.reg [
 O 4 (.mov (.c (.b false)))] []) (
 .ret))
 (.skip)))) (
 .reg [
 O 10 (.mov (.t 5)),
 O 11 (.bin .add (.t 10) (.c (I 1))),
 O 5 (.mov (.t 11))] [11, 10]))
def F69 : PF := ⟨2, [.t 4],
 sq (.reg [
 O 4 (.mov (.c (.b false)))] [4]) (
 sq (sq (.reg [
 O 5 (.mov (.c (I 1)))] []) (
 .block 0 (
 .loop [0, 1, 5] L69_0))) (
 sq (.reg [
 O 4 (.mov (.c (.b true)))] []) (
 .ret)))⟩
def F71 : PF := ⟨1, [.t 2],
 sq (.reg [
 O 2 (.mov (.c (I 0)))] [2]) (
 sq (.reg [
 O 5 (.mov (.t 0)),
 O 6 (.bin .sub (.t 5) (.c (I 2000))),
 O 3 (.mov (.t 6))] [6, 5]) (
 sq (.reg [
 O 7 (.mov (.t 3)),
 O 8 (.bin .add (.t 7) (.c (I 3))),
 O 9 (.bin .quo (.t 8) (.c (I 4))),
 O 4 (.mov (.t 9))] [9, 8, 7]) (
 sq (sq (.reg [
 O 10 (.mov (.t 0)),
 O 11 (.bin .gtr (.t 10) (.c (I 2100)))] [0, 10]) (
 .cond (.t 11) (.reg [
 O 12 (.mov (.t 4)),
 O 13 (.bin .sub (.t 12) (.c (I 1))),
 O 4 (.mov (.t 13))] [13, 12])
 (.skip))) (
 sq (.reg [
 O 14 (.mov (.t 3)),
 O 15 (.bin .mul (.c (I 365)) (.t 14)),
 O 16 (.mov (.t 4)),
 O 17 (.bin .add (.t 15) (.t 16)),
 O 2 (.mov (.t 17))] [17, 4, 16, 15, 3, 14]) (
 .ret)))))⟩
def F72 : PF := ⟨2, [.t 4],
 sq (.reg [
 O 4 (.mov (.c (I 0)))] [4]) (
 sq (.reg [
 O 6 (.agg [(I 0), (I 0), (I 0), (I 0), (I 0), (I 0), (I 0), (I 0), (I 0), (I 0), (I 0), (I 0), (I 0)] [(0, K0, (.c (I 0))), (1, K0, (.c (I 31))), (2, K0, (.c (I 28))), (3, K0, (.c (I 31))), (4, K0, (.c (I 30))), (5, K0, (.c (I 31))), (6, K0, (.c (I 30))), (7, K0, (.c (I 31))), (8, K0, (.c (I 31))), (9, K0, (.c (I 30))), (10, K0, (.c (I 31))), (11, K0, (.c (I 30))), (12, K0, (.c (I 31)))]),
 O 5 (.alloc (K1 13) (.a [(I 0), (I 0), (I 0), (I 0), (I 0), (I 0), (I 0), (I 0), (I 0), (I 0), (I 0), (I 0), (I 0)])),
 E (.store (K1 13) (.t 5) (.t 6))] [6]) (
 sq (sq (.reg [
 O 7 (.mov (.t 1)),
 O 8 (.bin .eql (.t 7) (.c (I 2))),
 O 9 (.mov (.t 8)),
 OG 10 9 true (.mov (.t 0)),
 OG 11 9 true (.call 0 66 [(.t 10)]),
 O 12 (.pick (.t 9) (.t 11) (.c (.b false)))] [11, 0, 10, 9, 8, 7]) (
 .cond (.t 12) (sq (.reg [
 O 4 (.mov (.c (I 29)))] []) (
 .ret))
 (.skip))) (
 sq (.reg [
 O 13 (.mov (.t 1)),
 O 14 (.iaddrA 13 K0 (.t 5) (.t 13)),
 O 15 (.load K0 (.t 14)),
 O 4 (.mov (.t 15))] [15, 5, 14, 1, 13]) (
 .ret))))⟩
def F87 : PF := ⟨0, [.c 0 (K1 22)],
 sq (.reg [
 O 0 (.alloc (K1 22) (.a [(.l (K1 2) [] true), (.l (K1 3) [] true), (.l (K1 4) [] true), (I 0), (I 0), (I 0), (I 0), (I 0), (I 0), (I 0), (I 0), (I 0), (I 0), (I 0), (I 0), (I 0), (I 0), (.l (K1 19) [] true), (.l (K1 7) [] true), (.l (K1 10) [] true), (.l (K1 6) [] true), (.l (K1 7) [] true)]))] []) (
 sq (.reg [
 O 3 (.agg [(.s []), (I 0)] [(0, K0, (.c (.s [69, 85, 82]))), (1, K0, (.c (I 2)))]),
 O 4 (.bsl (K1 2) (.a [(.s []), (I 0)]) 1 [(0, (.t 3))]),
 O 5 (.agg [(.s []), (.l K0 [] true), (.l K0 [] true)] [(0, K0, (.c (.s [104, 111, 109, 101])))]),
 O 6 (.bsl (K1 3) (.a [(.s []), (.l K0 [] true), (.l K0 [] true)]) 1 [(0, (.t 5))]),
 O 7 (.agg [(.l (K1 2) [] true), (.l (K1 3) [] true), (.l (K1 4) [] true), (I 0), (I 0), (I 0), (I 0), (I 0), (I 0), (I 0), (I 0), (I 0), (I 0), (I 0), (I 0), (I 0), (I 0), (.l (K1 19) [] true), (.l (K1 7) [] true), (.l (K1 10) [] true), (.l (K1 6) [] true), (.l (K1 7) [] true)] [(0, K0, (.t 4)), (1, K0, (.t 6))]),
 O 1 (.alloc (K1 22) (.a [(.l (K1 2) [] true), (.l (K1 3) [] true), (.l (K1 4) [] true), (I 0), (I 0), (I 0), (I 0), (I 0), (I 0), (I 0), (I 0), (I 0), (I 0), (I 0), (I 0), (I 0), (I 0), (.l (K1 19) [] true), (.l (K1 7) [] true), (.l (K1 10) [] true), (.l (K1 6) [] true), (.l (K1 7) [] true)])),
 E (.store (K1 22) (.t 1) (.t 7))] [7, 6, 5, 4, 3]) (
 sq (.reg [
 O 8 (.agg [(I 0), (I 0), (I 0), (.s [])] [(0, K0, (.c (I 101))), (2, K0, (.c (I 1))), (3, K0, (.c (.s [99, 97, 115, 104])))]),
 O 9 (.agg [(I 0), (I 0), (I 0), (.s [])] [(0, K0, (.c (I 102))), (2, K0, (.c (I 1))), (3, K0, (.c (.s [99, 108, 101, 97, 114, 105, 110, 103])))]),
 O 10 (.agg [(I 0), (I 0), (I 0), (.s [])] [(0, K0, (.c (I 103))), (2, K0, (.c (I 1))), (3, K0, (.c (.s [108, 111, 97, 110, 115])))]),
 O 11 (.agg [(I 0), (I 0), (I 0), (.s [])] [(0, K0, (.c (I 201))), (2, K0, (.c (I 2))), (3, K0, (.c (.s [100, 101, 112, 111, 115, 105, 116, 115])))]),
 O 12 (.agg [(I 0), (I 0), (I 0), (.s [])] [(0, K0, (.c (I 202))), (2, K0, (.c (I 2))), (3, K0, (.c (.s [111, 116, 104, 101, 114])))]),
 O 13 (.agg [(I 0), (I 0), (I 0), (.s [])] [(0, K0, (.c (I 301))), (2, K0, (.c (I 4))), (3, K0, (.c (.s [105, 110, 99, 111, 109, 101])))]),
 O 14 (.agg [(I 0), (I 0), (I 0), (.s [])] [(0, K0, (.c (I 401))), (2, K0, (.c (I 5))), (3, K0, (.c (.s [101, 120, 112, 101, 110, 115, 101])))]),
 O 15 (.bsl (K1 4) (.a [(I 0), (I 0), (I 0), (.s [])]) 7 [(0, (.t 8)), (1, (.t 9)), (2, (.t 10)), (3, (.t 11)), (4, (.t 12)), (5, (.t 13)), (6, (.t 14))]),
 O 16 (.faddr 2 (.t 1)),
 E (.store K0 (.t 16) (.t 15))] [16, 15, 14, 13, 12, 11, 10, 9, 8]) (
 sq (.reg [
 O 17 (.agg [(I 0), (I 0), (I 0), (I 0), (I 0), (I 0), (I 0), (I 0), (I 0), (I 0), (I 0), (I 0), (I 0), (I 0)] [(0, K0, (.c (I 101))), (1, K0, (.c (I 201))), (2, K0, (.c (I 401))), (3, K0, (.c (I 301))), (4, K0, (.c (I 301))), (5, K0, (.c (I 202))), (6, K0, (.c (I 102))), (7, K0, (.c (I 103))), (8, K0, (.c (I 301))), (9, K0, (.c (I 301))), (10, K0, (.c (I 202))), (11, K0, (.c (I 401))), (12, K0, (.c (I 401))), (13, K0, (.c (I 301)))]),
 O 18 (.faddr 3 (.t 1)),
 E (.store (K1 14) (.t 18) (.t 17))] [18, 17]) (
 sq (.reg [
 O 19 (.agg [(I 0), (I 0)] [(1, K0, (.c (I 36000)))]),
 O 20 (.bsl (K1 2) (.a [(I 0), (I 0)]) 1 [(0, (.t 19))]),
 O 21 (.agg [(.l (K1 2) [] true), (.b false), (I 0), (I 0), (.b false)] [(0, K0, (.t 20)), (2, K0, (.c (I 1))), (3, K0, (.c (I 6)))]),
 O 2 (.alloc (K1 5) (.a [(.l (K1 2) [] true), (.b false), (I 0), (I 0), (.b false)])),
 E (.store (K1 5) (.t 2) (.t 21))] [21, 20, 19]) (
 sq (.reg [
 O 22 (.load (K1 5) (.t 2)),
 O 23 (.load (K1 5) (.t 2)),
 O 24 (.agg [(.s []), (.s []), (.s []), (I 0), (I 0), (I 0), (I 0), (.l (K1 2) [] true), (.b false), (I 0), (I 0), (.b false), (.l (K1 2) [] true), (.b false), (I 0), (I 0), (.b false), (.l (K1 10) [] true), (.l (K1 6) [] true)] [(0, K0, (.c (.s [103, 105, 114, 111]))), (1, K0, (.c (.s [69, 85, 82]))), (2, K0, (.c (.s [104, 111, 109, 101]))), (3, K0, (.c (I 9000))), (4, K0, (.c (I 1))), (5, K0, (.c (I 500))), (7, (K1 5), (.t 22)), (12, (K1 5), (.t 23))]),
 O 25 (.bsl (K1 19) (.a [(.s []), (.s []), (.s []), (I 0), (I 0), (I 0), (I 0), (.l (K1 2) [] true), (.b false), (I 0), (I 0), (.b false), (.l (K1 2) [] true), (.b false), (I 0), (I 0), (.b false), (.l (K1 10) [] true), (.l (K1 6) [] true)]) 1 [(0, (.t 24))]),
 O 26 (.faddr 17 (.t 1)),
 E (.store K0 (.t 26) (.t 25))] [26, 25, 24, 23, 2, 22]) (
 sq (.reg [
 O 27 (.call 0 106 [(.c (I 1000))]),
 O 28 (.agg [(I 0), (I 0), (I 0), (I 0), (.s []), (.s []), (.s [])] [(0, K0, (.c (I 1000))), (1, K0, (.c (I 9678))), (4, K0, (.c (.s [97, 110, 110, 97]))), (5, K0, (.c (.s [103, 105, 114, 111]))), (6, K0, (.t 27))]),
 O 29 (.call 0 106 [(.c (I 1001))]),
 O 30 (.agg [(I 0), (I 0), (I 0), (I 0), (.s []), (.s []), (.s [])] [(0, K0, (.c (I 1001))), (1, K0, (.c (I 9678))), (4, K0, (.c (.s [98, 101, 110]))), (5, K0, (.c (.s [103, 105, 114, 111]))), (6, K0, (.t 29))]),
 O 31 (.bsl (K1 7) (.a [(I 0), (I 0), (I 0), (I 0), (.s []), (.s []), (.s [])]) 2 [(0, (.t 28)), (1, (.t 30))]),
 O 32 (.faddr 18 (.t 1)),
 E (.store K0 (.t 32) (.t 31))] [32, 31, 30, 29, 28, 27]) (
 sq (.reg [
 O 33 (.load (K1 22) (.t 1)),
 E (.store (K1 22) (.t 0) (.t 33))] [1, 33]) (
 .ret))))))))⟩
def F88 : PF := ⟨0, [.t 0],
 sq (.reg [
 O 0 (.mov (.c (.l (K1 3) [] true)))] [0]) (
 sq (.reg [
 O 1 (.agg [(.s []), (I 0), (I 0)] [(0, K0, (.c (.s [97, 110, 110, 97]))), (1, K0, (.c (I 127))), (2, K0, (.c (I 100000)))]),
 O 2 (.agg [(.s []), (I 0), (I 0)] [(0, K0, (.c (.s [98, 101, 110]))), (1, K0, (.c (I 127))), (2, K0, (.c (I 1000000)))]),
 O 3 (.bsl (K1 3) (.a [(.s []), (I 0), (I 0)]) 2 [(0, (.t 1)), (1, (.t 2))]),
 O 0 (.mov (.t 3))] [3, 2, 1]) (
 .ret))⟩
def F100 : PF := ⟨1, [.c 2 (K1 42)],
 sq (.reg [
 O 1 (.box (K1 42) (.t 0)),
 O 2 (.alloc (K1 42) (.a [(I 0), (I 0), (.s []), (.l (K1 2) [] true), (.l (K1 3) [] true), (.l (K1 4) [] true), (I 0), (I 0), (I 0), (I 0), (I 0), (I 0), (I 0), (I 0), (I 0), (I 0), (I 0), (I 0), (I 0), (I 0), (.l (K1 19) [] true), (.l (K1 7) [] true), (.l (K1 10) [] true), (.l (K1 6) [] true), (.l (K1 7) [] true), (.l (K1 11) [] true), (.l (K1 25) [] true), (.l (K1 10) [] true), (.l (K1 7) [] true), (.l (K1 9) [] true), (.l (K1 7) [] true), (.l (K1 7) [] true), (.l (K1 3) [] true), (.l (K1 35) [] true), (.l (K1 5) [] true), (.b false), (I 0), (I 0), (I 0), (I 0), (.l (K1 3) [] true), (.l (K1 3) [] true)]))] [0]) (
 sq (.reg [
 O 3 (.faddr 3 (.t 1)),
 O 4 (.load (K1 22) (.t 3)),
 O 5 (.call 0 146 [(.t 4)]),
 O 6 (.faddr 3 (.t 1)),
 E (.store (K1 22) (.t 6) (.t 5))] [6, 5, 4, 3]) (
 sq (.regD [
 O 7 (.faddr 25 (.t 1)),
 O 8 (.load K0 (.t 7)),
 O 9 (.call 1 147 [(.t 8)]),
 O 10 (.faddr 27 (.t 1)),
 O 11 (.load K0 (.t 10)),
 O 12 (.call 1 148 [(.t 11)]),
 O 13 (.faddr 28 (.t 1)),
 O 14 (.load K0 (.t 13)),
 O 15 (.call 1 149 [(.t 14)]),
 O 16 (.faddr 25 (.t 1)),
 E (.store K0 (.t 16) (.t 9)),
 O 17 (.faddr 27 (.t 1)),
 E (.store K0 (.t 17) (.t 12)),
 O 18 (.faddr 28 (.t 1)),
 E (.store K0 (.t 18) (.t 15))] [0, 1, 3, 0, 8, 31, 0, 64, 255, 223, 1023, 2047, 4095, 8191, 16383] [18, 17, 16, 15, 14, 13, 12, 11, 10, 9, 8, 7]) (
 sq (.regD [
 O 19 (.faddr 29 (.t 1)),
 O 20 (.load K0 (.t 19)),
 O 21 (.call 1 150 [(.t 20)]),
 O 22 (.faddr 30 (.t 1)),
 O 23 (.load K0 (.t 22)),
 O 24 (.call 1 151 [(.t 23)]),
 O 25 (.faddr 32 (.t 1)),
 O 26 (.load K0 (.t 25)),
 O 27 (.call 1 152 [(.t 26)]),
 O 28 (.faddr 34 (.t 1)),
 O 29 (.load K0 (.t 28)),
 O 30 (.call 1 153 [(.t 29)]),
 O 31 (.faddr 29 (.t 1)),
 E (.store K0 (.t 31) (.t 21)),
 O 32 (.faddr 30 (.t 1)),
 E (.store K0 (.t 32) (.t 24)),
 O 33 (.faddr 32 (.t 1)),
 E (.store K0 (.t 33) (.t 27)),
 O 34 (.faddr 34 (.t 1)),
 E (.store K0 (.t 34) (.t 30))] [0, 1, 3, 0, 8, 31, 0, 64, 255, 0, 512, 2047, 1759, 8191, 16383, 32767, 65535, 131071, 262143, 524287] [34, 33, 32, 31, 30, 29, 28, 27, 26, 25, 24, 23, 22, 21, 20, 19]) (
 sq (.reg [
 O 35 (.faddr 26 (.t 1)),
 O 36 (.load K0 (.t 35)),
 O 37 (.call 2 154 [(.t 36), (.f 94)]),
 O 38 (.faddr 26 (.t 1)),
 E (.store K0 (.t 38) (.t 37))] [38, 37, 36, 35]) (
 sq (.reg [
 O 39 (.faddr 31 (.t 1)),
 O 40 (.load K0 (.t 39)),
 O 41 (.call 2 155 [(.t 40), (.f 156)]),
 O 42 (.faddr 31 (.t 1)),
 E (.store K0 (.t 42) (.t 41))] [42, 41, 40, 39]) (
 sq (.reg [
 O 43 (.faddr 33 (.t 1)),
 O 44 (.load K0 (.t 43)),
 O 45 (.call 2 158 [(.t 44), (.f 159)]),
 O 46 (.faddr 33 (.t 1)),
 E (.store K0 (.t 46) (.t 45))] [46, 45, 44, 43]) (
 sq (.regD [
 O 47 (.faddr 39 (.t 1)),
 O 48 (.faddr 1 (.t 47)),
 O 49 (.load K0 (.t 48)),
 O 50 (.call 1 161 [(.t 49)]),
 O 51 (.faddr 39 (.t 1)),
 O 52 (.faddr 2 (.t 51)),
 O 53 (.load K0 (.t 52)),
 O 54 (.call 1 162 [(.t 53)]),
 O 55 (.faddr 39 (.t 1)),
 O 56 (.faddr 1 (.t 55)),
 E (.store K0 (.t 56) (.t 50)),
 O 57 (.faddr 39 (.t 1)),
 O 58 (.faddr 2 (.t 57)),
 E (.store K0 (.t 58) (.t 54))] [0, 1, 3, 7, 0, 16, 48, 127, 127, 383, 1023, 2047, 4095, 8191] [58, 57, 56, 55, 54, 53, 52, 51, 50, 49, 48, 47]) (
 sq (.reg [
 O 59 (.load (K1 42) (.t 1)),
 E (.store (K1 42) (.t 2) (.t 59))] [1, 59]) (
 .ret)))))))))⟩
def L106_0 : PC :=
 sq (sq (.reg [
 O 13 (.mov (.t 4)),
 O 14 (.bin .lss (.t 13) (.c (I 8)))] [13]) (
 .cond (.t 14) (.skip)
 (.exit 0))) (
 sq (.block 1 (
 sq (.reg [
 O 17 (.mov (.t 0)),
 O 18 (.bin .rem (.t 17) (.c (I 10))),
 O 19 (.mov (.t 0)),
 O 20 (.bin .rem (.t 19) (.c (I 10))),
 O 21 (.bin .add (.t 20) (.c (I 1))),
 O 22 (.slS (.c (.s [48, 49, 50, 51, 52, 53, 54, 55, 56, 57])) (some (.t 18)) (some (.t 21))),
 O 23 (.mov (.t 3)),
 O 24 (.bin .add (.t 22) (.t 23)),
 O 3 (.mov (.t 24))] [24, 23, 22, 21, 20, 19, 18, 17]) (
 .reg [
 O 25 (.mov (.t 0)),
 O 26 (.bin .quo (.t 25) (.c (I 10))),
 O 0 (.mov (.t 26))] [26, 25]))) (
 .reg [
 O 15 (.mov (.t 4)),
 O 16 (.bin .add (.t 15) (.c (I 1))),
 O 4 (.mov (.t 16))] [16, 15]))
def F106 : PF := ⟨1, [.t 2],
 sq (.reg [
 O 2 (.mov (.c (.s [])))] [2]) (
 sq (sq (.reg [
 O 7 (.mov (.t 0)),
 O 8 (.bin .lss (.t 7) (.c (I 1000))),
 O 9 (.mov (.t 8)),
 OG 10 9 false (.mov (.t 0)),
 OG 11 9 false (.bin .gtr (.t 10) (.c (I 99999999))),
 O 12 (.pick (.t 9) (.c (.b true)) (.t 11))] [11, 10, 9, 8, 7]) (
 .cond (.t 12) (sq (.reg [
 O 2 (.mov (.c (.s [])))] []) (
 .ret))
 (.skip))) (
 sq (.reg [
 O 3 (.mov (.c (.s [])))] []) (
 sq (sq (.reg [
 O 4 (.mov (.c (I 0)))] []) (
 .block 0 (
 .loop [0, 3, 4] L106_0))) (
 sq (.reg [
 O 28 (.mov (.t 3)),
 O 29 (.bin .add (.c (.s [67, 66])) (.t 28)),
 O 30 (.call 0 177 [(.t 29)]),
 O 27 (.mov (.t 30)),
 O 31 (.ext (.t 27) 0),
 O 32 (.ext (.t 27) 1),
 O 5 (.mov (.t 31)),
 O 6 (.mov (.t 32))] [6, 32, 31, 27, 30, 29, 3, 28]) (
 sq (.reg [
 O 33 (.mov (.t 5)),
 O 2 (.mov (.t 33))] [5, 33]) (
 .ret))))))⟩
def F110 : PF := ⟨1, [.t 2],
 sq (.reg [
 O 2 (.mov (.c (.l (K1 3) [] true)))] [2]) (
 sq (.reg [
 O 4 (.mov (.t 0)),
 O 5 (.call 1 179 [(.c (.l (K1 3) [] true)), (.t 4)]),
 O 3 (.mov (.t 5))] [5, 0, 4]) (
 sq (.reg [
 O 6 (.mov (.t 3)),
 O 7 (.call 2 180 [(.t 6), (.f 181)]),
 O 2 (.mov (.t 7))] [7, 3, 6]) (
 .ret)))⟩
def L111_0 : PC :=
 sq (.reg [
 O 69 (.bin .lss (.t 68) (.t 67))] []) (
 sq (.cond (.t 69) (.skip)
 (.exit 1)) (
 sq (.block 2 (
 sq (.reg [
 O 70 (.iaddr (K1 3) (.t 66) (.t 68)),
 O 71 (.load (K1 3) (.t 70)),
 O 4 (.alloc (K1 3) (.a [(I 0), (I 0), (.s [])])),
 E (.store (K1 3) (.t 4) (.t 71))] [71, 70]) (
 sq (sq (.reg [
 O 72 (.faddr 0 (.t 4)),
 O 73 (.load K0 (.t 72)),
 O 74 (.bin .lss (.t 73) (.c (I 1))),
 O 75 (.mov (.t 74)),
 OG 76 75 false (.faddr 1 (.t 4)),
 OG 77 75 false (.load K0 (.t 76)),
 OG 78 75 false (.bin .eql (.t 77) (.c (I 0))),
 O 79 (.pick (.t 75) (.c (.b true)) (.t 78)),
 O 80 (.mov (.t 79)),
 OG 81 80 false (.faddr 1 (.t 4)),
 OG 82 80 false (.load K0 (.t 81)),
 OG 83 80 false (.bin .lss (.t 82) (.c (I (-1000000000000)))),
 O 84 (.pick (.t 80) (.c (.b true)) (.t 83)),
 O 85 (.mov (.t 84)),
 OG 86 85 false (.faddr 1 (.t 4)),
 OG 87 85 false (.load K0 (.t 86)),
 OG 88 85 false (.bin .gtr (.t 87) (.c (I 1000000000000))),
 O 89 (.pick (.t 85) (.c (.b true)) (.t 88))] [88, 87, 86, 85, 84, 83, 82, 81, 80, 79, 78, 77, 76, 75, 74, 73, 72]) (
 .cond (.t 89) (sq (.reg [
 O 2 (.mov (.c (I 1)))] []) (
 .ret))
 (.skip))) (
 sq (.reg [
 O 90 (.faddr 2 (.t 4)),
 O 91 (.load K0 (.t 90)),
 O 92 (.call 0 185 [(.t 91)]),
 O 93 (.un .not (.t 92))] [92, 91, 4, 90]) (
 .cond (.t 93) (sq (.reg [
 O 2 (.mov (.c (I 14)))] []) (
 .ret))
 (.skip)))))) (
 .reg [
 O 94 (.bin .add (.t 68) (.c (I 1))),
 O 68 (.mov (.t 94))] [94])))
def L111_1 : PC :=
 sq (.reg [
 O 100 (.bin .lss (.t 99) (.t 98))] []) (
 sq (.cond (.t 100) (.skip)
 (.exit 3)) (
 sq (.block 4 (
 sq (.reg [
 O 101 (.iaddr (K1 2) (.t 97) (.t 99)),
 O 102 (.load (K1 2) (.t 101)),
 O 6 (.alloc (K1 2) (.a [(.s []), (I 0)])),
 E (.store (K1 2) (.t 6) (.t 102))] [102, 101]) (
 sq (.reg [
 O 103 (.faddr 1 (.t 6)),
 O 104 (.load K0 (.t 103)),
 O 105 (.bin .neq (.t 104) (.c (I 0)))] [104, 6, 103]) (
 .cond (.t 105) (sq (.reg [
 O 2 (.mov (.c (I 15)))] []) (
 .ret))
 (.skip))))) (
 .reg [
 O 106 (.bin .add (.t 99) (.c (I 1))),
 O 99 (.mov (.t 106))] [106])))
def F111 : PF := ⟨1, [.t 2],
 sq (.reg [
 O 1 (.box (K1 10) (.t 0)),
 O 2 (.mov (.c (I 0)))] [2, 0]) (
 sq (.block 0 (
 sq (.reg [
 O 8 (.faddr 6 (.t 1)),
 O 9 (.load K0 (.t 8)),
 O 10 (.call 0 182 [(.t 9)]),
 O 11 (.un .not (.t 10)),
 O 7 (.mov (.t 11))] [11, 10, 9, 8]) (
 .cond (.t 7) (sq (.reg [
 O 2 (.mov (.c (I 4)))] []) (
 .ret))
 (sq (.reg [
 O 13 (.faddr 7 (.t 1)),
 O 14 (.load K0 (.t 13)),
 O 15 (.call 0 183 [(.t 14), (.c (.i .u8 32)), (.c (I 64))]),
 O 16 (.un .not (.t 15)),
 O 17 (.mov (.t 16)),
 OG 18 17 false (.faddr 1 (.t 1)),
 OG 19 17 false (.load K0 (.t 18)),
 OG 20 17 false (.call 0 184 [(.t 19)]),
 OG 21 17 false (.un .not (.t 20)),
 O 22 (.pick (.t 17) (.c (.b true)) (.t 21)),
 O 23 (.mov (.t 22)),
 OG 24 23 false (.faddr 2 (.t 1)),
 OG 25 23 false (.load K0 (.t 24)),
 OG 26 23 false (.call 0 184 [(.t 25)]),
 OG 27 23 false (.un .not (.t 26)),
 O 28 (.pick (.t 23) (.c (.b true)) (.t 27)),
 O 29 (.mov (.t 28)),
 OG 30 29 false (.faddr 5 (.t 1)),
 OG 31 29 false (.load K0 (.t 30)),
 OG 32 29 false (.call 0 184 [(.t 31)]),
 OG 33 29 false (.un .not (.t 32)),
 O 34 (.pick (.t 29) (.c (.b true)) (.t 33)),
 O 12 (.mov (.t 34))] [34, 33, 32, 31, 30, 29, 28, 27, 26, 25, 24, 23, 22, 21, 20, 19, 18, 17, 16, 15, 14, 13]) (
 .cond (.t 12) (sq (.reg [
 O 2 (.mov (.c (I 1)))] []) (
 .ret))
 (sq (.reg [
 O 36 (.faddr 3 (.t 1)),
 O 37 (.load K0 (.t 36)),
 O 38 (.bin .lss (.t 37) (.c (I 1))),
 O 39 (.mov (.t 38)),
 OG 40 39 false (.faddr 3 (.t 1)),
 OG 41 39 false (.load K0 (.t 40)),
 OG 42 39 false (.bin .gtr (.t 41) (.c (I 14))),
 O 43 (.pick (.t 39) (.c (.b true)) (.t 42)),
 O 44 (.mov (.t 43)),
 OG 45 44 false (.faddr 4 (.t 1)),
 OG 46 44 false (.load K0 (.t 45)),
 OG 47 44 false (.bin .lss (.t 46) (.c (I 0))),
 O 48 (.pick (.t 44) (.c (.b true)) (.t 47)),
 O 49 (.mov (.t 48)),
 OG 50 49 false (.faddr 4 (.t 1)),
 OG 51 49 false (.load K0 (.t 50)),
 OG 52 49 false (.bin .gtr (.t 51) (.c (I 3))),
 O 53 (.pick (.t 49) (.c (.b true)) (.t 52)),
 O 35 (.mov (.t 53))] [53, 52, 51, 50, 49, 48, 47, 46, 45, 44, 43, 42, 41, 40, 39, 38, 37, 36]) (
 .cond (.t 35) (sq (.reg [
 O 2 (.mov (.c (I 1)))] []) (
 .ret))
 (sq (.reg [
 O 55 (.faddr 8 (.t 1)),
 O 56 (.load K0 (.t 55)),
 O 57 (.len false (.t 56)),
 O 58 (.bin .lss (.t 57) (.c (I 2))),
 O 59 (.mov (.t 58)),
 OG 60 59 false (.faddr 8 (.t 1)),
 OG 61 59 false (.load K0 (.t 60)),
 OG 62 59 false (.len false (.t 61)),
 OG 63 59 false (.bin .gtr (.t 62) (.c (I 12))),
 O 64 (.pick (.t 59) (.c (.b true)) (.t 63)),
 O 54 (.mov (.t 64))] [64, 63, 62, 61, 60, 59, 58, 57, 56, 55]) (
 .cond (.t 54) (sq (.reg [
 O 2 (.mov (.c (I 5)))] []) (
 .ret))
 (.skip)))))))))) (
 sq (sq (.reg [
 O 65 (.faddr 8 (.t 1)),
 O 66 (.load K0 (.t 65)),
 O 67 (.len false (.t 66)),
 O 68 (.mov (.c (I 0)))] [65]) (
 .block 1 (
 .loop [1, 66, 67, 68] L111_0))) (
 sq (sq (.reg [
 O 95 (.faddr 8 (.t 1)),
 O 96 (.load K0 (.t 95)),
 O 97 (.call 0 186 [(.t 96)]),
 O 98 (.len false (.t 97)),
 O 99 (.mov (.c (I 0)))] [96, 1, 95]) (
 .block 3 (
 .loop [97, 98, 99] L111_1))) (
 sq (.reg [
 O 2 (.mov (.c (I 0)))] []) (
 .ret)))))⟩
def F146 : PF := ⟨1, [.c 2 (K1 22)],
 sq (.reg [
 O 1 (.box (K1 22) (.t 0)),
 O 2 (.alloc (K1 22) (.a [(.l (K1 2) [] true), (.l (K1 3) [] true), (.l (K1 4) [] true), (I 0), (I 0), (I 0), (I 0), (I 0), (I 0), (I 0), (I 0), (I 0), (I 0), (I 0), (I 0), (I 0), (I 0), (.l (K1 19) [] true), (.l (K1 7) [] true), (.l (K1 10) [] true), (.l (K1 6) [] true), (.l (K1 7) [] true)]))] [0]) (
 sq (.regD [
 O 3 (.faddr 0 (.t 1)),
 O 4 (.load K0 (.t 3)),
 O 5 (.call 1 225 [(.t 4)]),
 O 6 (.faddr 2 (.t 1)),
 O 7 (.load K0 (.t 6)),
 O 8 (.call 1 226 [(.t 7)]),
 O 9 (.faddr 18 (.t 1)),
 O 10 (.load K0 (.t 9)),
 O 11 (.call 1 227 [(.t 10)]),
 O 12 (.faddr 0 (.t 1)),
 E (.store K0 (.t 12) (.t 5)),
 O 13 (.faddr 2 (.t 1)),
 E (.store K0 (.t 13) (.t 8)),
 O 14 (.faddr 18 (.t 1)),
 E (.store K0 (.t 14) (.t 11))] [0, 1, 3, 0, 8, 31, 0, 64, 255, 223, 1023, 2047, 4095, 8191, 16383] [14, 13, 12, 11, 10, 9, 8, 7, 6, 5, 4, 3]) (
 sq (.regD [
 O 15 (.faddr 20 (.t 1)),
 O 16 (.load K0 (.t 15)),
 O 17 (.call 1 228 [(.t 16)]),
 O 18 (.faddr 21 (.t 1)),
 O 19 (.load K0 (.t 18)),
 O 20 (.call 1 229 [(.t 19)]),
 O 21 (.faddr 20 (.t 1)),
 E (.store K0 (.t 21) (.t 17)),
 O 22 (.faddr 21 (.t 1)),
 E (.store K0 (.t 22) (.t 20))] [0, 1, 3, 0, 8, 31, 31, 127, 255, 511] [22, 21, 20, 19, 18, 17, 16, 15]) (
 sq (.reg [
 O 23 (.faddr 1 (.t 1)),
 O 24 (.load K0 (.t 23)),
 O 25 (.call 2 230 [(.t 24), (.f 231)]),
 O 26 (.faddr 1 (.t 1)),
 E (.store K0 (.t 26) (.t 25))] [26, 25, 24, 23]) (
 sq (.reg [
 O 27 (.faddr 17 (.t 1)),
 O 28 (.load K0 (.t 27)),
 O 29 (.call 2 232 [(.t 28), (.f 233)]),
 O 30 (.faddr 17 (.t 1)),
 E (.store K0 (.t 30) (.t 29))] [30, 29, 28, 27]) (
 sq (.reg [
 O 31 (.faddr 19 (.t 1)),
 O 32 (.load K0 (.t 31)),
 O 33 (.call 0 234 [(.t 32)]),
 O 34 (.faddr 19 (.t 1)),
 E (.store K0 (.t 34) (.t 33))] [34, 33, 32, 31]) (
 sq (.reg [
 O 35 (.load (K1 22) (.t 1)),
 E (.store (K1 22) (.t 2) (.t 35))] [1, 35]) (
 .ret)))))))⟩
def L154_0 : PC :=
 sq (.reg [
 O 14 (.bin .lss (.t 13) (.t 12))] []) (
 sq (.cond (.t 14) (.skip)
 (.exit 0)) (
 sq (.block 1 (
 sq (.reg [
 O 15 (.iaddr (K1 25) (.t 11) (.t 13)),
 O 16 (.load (K1 25) (.t 15)),
 O 7 (.alloc (K1 25) (.a [(I 0), (I 0), (I 0), (I 0), (I 0), (I 0), (I 0), (I 0), (I 0), (I 0), (I 0), (I 0), (I 0), (I 0), (I 0), (I 0), (I 0), (I 0), (I 0), (I 0), (I 0), (.s []), (.s []), (.l (K1 4) [] true), (.l (K1 14) [] true)])),
 E (.store (K1 25) (.t 7) (.t 16))] [16, 15]) (
 .reg [
 O 17 (.mov (.t 5)),
 O 18 (.mov (.t 1)),
 O 19 (.load (K1 25) (.t 7)),
 O 20 (.callv (.t 18) [(.t 19)]),
 O 21 (.bsl (K1 25) (.a [(I 0), (I 0), (I 0), (I 0), (I 0), (I 0), (I 0), (I 0), (I 0), (I 0), (I 0), (I 0), (I 0), (I 0), (I 0), (I 0), (I 0), (I 0), (I 0), (I 0), (I 0), (.s []), (.s []), (.l (K1 4) [] true), (.l (K1 14) [] true)]) 1 [(0, (.t 20))]),
 O 22 (.app (K1 25) 248 (.t 17) (.t 21)),
 O 5 (.mov (.t 22))] [22, 21, 20, 7, 19, 18, 17]))) (
 .reg [
 O 23 (.bin .add (.t 13) (.c (I 1))),
 O 13 (.mov (.t 23))] [23])))
def F154 : PF := ⟨2, [.t 4],
 sq (.reg [
 O 4 (.mov (.c (.l (K1 25) [] true)))] [4]) (
 sq (.reg [
 O 8 (.mov (.t 0)),
 O 9 (.len false (.t 8)),
 O 10 (.mksl (K1 25) 248 (.a [(I 0), (I 0), (I 0), (I 0), (I 0), (I 0), (I 0), (I 0), (I 0), (I 0), (I 0), (I 0), (I 0), (I 0), (I 0), (I 0), (I 0), (I 0), (I 0), (I 0), (I 0), (.s []), (.s []), (.l (K1 4) [] true), (.l (K1 14) [] true)]) (.c (I 0)) (.t 9)),
 O 5 (.mov (.t 10))] [10, 9, 8]) (
 sq (sq (.reg [
 O 11 (.mov (.t 0)),
 O 12 (.len false (.t 11)),
 O 13 (.mov (.c (I 0)))] [0]) (
 .block 0 (
 .loop [1, 5, 11, 12, 13] L154_0))) (
 sq (.reg [
 O 24 (.mov (.t 5)),
 O 4 (.mov (.t 24))] [5, 24]) (
 .ret))))⟩
def L155_0 : PC :=
 sq (.reg [
 O 14 (.bin .lss (.t 13) (.t 12))] []) (
 sq (.cond (.t 14) (.skip)
 (.exit 0)) (
 sq (.block 1 (
 sq (.reg [
 O 15 (.iaddr (K1 7) (.t 11) (.t 13)),
 O 16 (.load (K1 7) (.t 15)),
 O 7 (.alloc (K1 7) (.a [(I 0), (I 0), (I 0), (I 0), (I 0), (I 0), (.l (K1 4) [] true)])),
 E (.store (K1 7) (.t 7) (.t 16))] [16, 15]) (
 .reg [
 O 17 (.mov (.t 5)),
 O 18 (.mov (.t 1)),
 O 19 (.load (K1 7) (.t 7)),
 O 20 (.callv (.t 18) [(.t 19)]),
 O 21 (.bsl (K1 7) (.a [(I 0), (I 0), (I 0), (I 0), (I 0), (I 0), (.l (K1 4) [] true)]) 1 [(0, (.t 20))]),
 O 22 (.app (K1 7) 72 (.t 17) (.t 21)),
 O 5 (.mov (.t 22))] [22, 21, 20, 7, 19, 18, 17]))) (
 .reg [
 O 23 (.bin .add (.t 13) (.c (I 1))),
 O 13 (.mov (.t 23))] [23])))
def F155 : PF := ⟨2, [.t 4],
 sq (.reg [
 O 4 (.mov (.c (.l (K1 7) [] true)))] [4]) (
 sq (.reg [
 O 8 (.mov (.t 0)),
 O 9 (.len false (.t 8)),
 O 10 (.mksl (K1 7) 72 (.a [(I 0), (I 0), (I 0), (I 0), (I 0), (I 0), (.l (K1 4) [] true)]) (.c (I 0)) (.t 9)),
 O 5 (.mov (.t 10))] [10, 9, 8]) (
 sq (sq (.reg [
 O 11 (.mov (.t 0)),
 O 12 (.len false (.t 11)),
 O 13 (.mov (.c (I 0)))] [0]) (
 .block 0 (
 .loop [1, 5, 11, 12, 13] L155_0))) (
 sq (.reg [
 O 24 (.mov (.t 5)),
 O 4 (.mov (.t 24))] [5, 24]) (
 .ret))))⟩
def L158_0 : PC :=
 sq (.reg [
 O 14 (.bin .lss (.t 13) (.t 12))] []) (
 sq (.cond (.t 14) (.skip)
 (.exit 0)) (
 sq (.block 1 (
 sq (.reg [
 O 15 (.iaddr (K1 35) (.t 11) (.t 13)),
 O 16 (.load (K1 35) (.t 15)),
 O 7 (.alloc (K1 35) (.a [(I 0), (I 0), (I 0), (I 0), (.s []), (.s []), (I 0), (I 0), (I 0), (I 0), (I 0), (I 0), (.s []), (.s []), (.s []), (I 0), (I 0), (I 0), (I 0), (I 0), (I 0), (I 0), (I 0), (I 0), (I 0), (.s []), (.s []), (.s []), (I 0), (I 0), (I 0), (I 0), (I 0), (.s []), (.l K0 [] true)])),
 E (.store (K1 35) (.t 7) (.t 16))] [16, 15]) (
 .reg [
 O 17 (.mov (.t 5)),
 O 18 (.mov (.t 1)),
 O 19 (.load (K1 35) (.t 7)),
 O 20 (.callv (.t 18) [(.t 19)]),
 O 21 (.bsl (K1 35) (.a [(I 0), (I 0), (I 0), (I 0), (.s []), (.s []), (I 0), (I 0), (I 0), (I 0), (I 0), (I 0), (.s []), (.s []), (.s []), (I 0), (I 0), (I 0), (I 0), (I 0), (I 0), (I 0), (I 0), (I 0), (I 0), (.s []), (.s []), (.s []), (I 0), (I 0), (I 0), (I 0), (I 0), (.s []), (.l K0 [] true)]) 1 [(0, (.t 20))]),
 O 22 (.app (K1 35) 368 (.t 17) (.t 21)),
 O 5 (.mov (.t 22))] [22, 21, 20, 7, 19, 18, 17]))) (
 .reg [
 O 23 (.bin .add (.t 13) (.c (I 1))),
 O 13 (.mov (.t 23))] [23])))
def F158 : PF := ⟨2, [.t 4],
 sq (.reg [
 O 4 (.mov (.c (.l (K1 35) [] true)))] [4]) (
 sq (.reg [
 O 8 (.mov (.t 0)),
 O 9 (.len false (.t 8)),
 O 10 (.mksl (K1 35) 368 (.a [(I 0), (I 0), (I 0), (I 0), (.s []), (.s []), (I 0), (I 0), (I 0), (I 0), (I 0), (I 0), (.s []), (.s []), (.s []), (I 0), (I 0), (I 0), (I 0), (I 0), (I 0), (I 0), (I 0), (I 0), (I 0), (.s []), (.s []), (.s []), (I 0), (I 0), (I 0), (I 0), (I 0), (.s []), (.l K0 [] true)]) (.c (I 0)) (.t 9)),
 O 5 (.mov (.t 10))] [10, 9, 8]) (
 sq (sq (.reg [
 O 11 (.mov (.t 0)),
 O 12 (.len false (.t 11)),
 O 13 (.mov (.c (I 0)))] [0]) (
 .block 0 (
 .loop [1, 5, 11, 12, 13] L158_0))) (
 sq (.reg [
 O 24 (.mov (.t 5)),
 O 4 (.mov (.t 24))] [5, 24]) (
 .ret))))⟩
def L168_0 : PC :=
 sq (.reg [
 O 12 (.bin .lss (.t 11) (.t 10))] []) (
 sq (.cond (.t 12) (.skip)
 (.exit 0)) (
 sq (.block 1 (
 sq (.reg [
 O 13 (.iaddr (K1 3) (.t 9) (.t 11)),
 O 14 (.load (K1 3) (.t 13)),
 O 6 (.alloc (K1 3) (.a [(I 0), (I 0), (.s [])])),
 E (.store (K1 3) (.t 6) (.t 14))] [14, 13]) (
 sq (.reg [
 O 7 (.mov (.c (I 0)))] [7]) (
 sq (sq (.reg [
 O 15 (.faddr 0 (.t 6)),
 O 16 (.load K0 (.t 15)),
 O 17 (.bin .lss (.t 16) (.c (I 1000)))] [16, 15]) (
 .cond (.t 17) (.reg [
 O 18 (.load (K1 22) (.t 2)),
 O 19 (.load (K1 3) (.t 6)),
 O 20 (.call 0 245 [(.t 18), (.t 19)]),
 O 7 (.mov (.t 20))] [20, 6, 19, 18])
 (.reg [
 O 21 (.load (K1 22) (.t 2)),
 O 22 (.load (K1 3) (.t 6)),
 O 23 (.faddr 1 (.t 3)),
 O 24 (.load K0 (.t 23)),
 O 25 (.call 0 246 [(.t 21), (.t 22), (.t 24)]),
 O 7 (.mov (.t 25))] [25, 24, 23, 6, 22, 21]))) (
 sq (.reg [
 O 26 (.mov (.t 7)),
 O 27 (.bin .neq (.t 26) (.c (I 0)))] [26]) (
 .cond (.t 27) (sq (.reg [
 O 28 (.mov (.t 7)),
 O 4 (.mov (.t 28))] [7, 28]) (
 .ret))
 (.skip))))))) (
 .reg [
 O 29 (.bin .add (.t 11) (.c (I 1))),
 O 11 (.mov (.t 29))] [29])))
def F168 : PF := ⟨2, [.t 4],
 sq (.reg [
 O 2 (.box (K1 22) (.t 0)),
 O 3 (.box (K1 10) (.t 1)),
 O 4 (.mov (.c (I 0)))] [4, 1, 0]) (
 sq (sq (.reg [
 O 8 (.faddr 8 (.t 3)),
 O 9 (.load K0 (.t 8)),
 O 10 (.len false (.t 9)),
 O 11 (.mov (.c (I 0)))] [8]) (
 .block 0 (
 .loop [2, 3, 9, 10, 11] L168_0))) (
 sq (.reg [
 O 4 (.mov (.c (I 0)))] []) (
 .ret)))⟩
def F172 : PF := ⟨2, [.c 4 (K1 3), .t 5],
 sq (.reg [
 O 3 (.box K0 (.t 1)),
 O 4 (.alloc (K1 3) (.a [(.s []), (.l K0 [] true), (.l K0 [] true)])),
 O 5 (.mov (.c (.b false)))] [5, 1]) (
 sq (.reg [
 O 8 (.mov (.t 0)),
 O 9 (.mkf 255 [(.t 3)]),
 O 10 (.call 2 254 [(.t 8), (.t 9)]),
 O 6 (.mov (.t 10))] [10, 3, 9, 8]) (
 sq (sq (.reg [
 O 11 (.mov (.t 6)),
 O 12 (.bin .lss (.t 11) (.c (I 0)))] [11]) (
 .cond (.t 12) (sq (.reg [
 O 13 (.agg [(.s []), (.l K0 [] true), (.l K0 [] true)] []),
 E (.store (K1 3) (.t 4) (.t 13)),
 O 5 (.mov (.c (.b false)))] [13]) (
 .ret))
 (.skip))) (
 sq (.reg [
 O 14 (.mov (.t 0)),
 O 15 (.mov (.t 6)),
 O 16 (.iaddr (K1 3) (.t 14) (.t 15)),
 O 17 (.load (K1 3) (.t 16)),
 O 7 (.alloc (K1 3) (.a [(.s []), (.l K0 [] true), (.l K0 [] true)])),
 E (.store (K1 3) (.t 7) (.t 17))] [17, 16, 6, 15, 0, 14]) (
 sq (.regD [
 O 18 (.faddr 1 (.t 7)),
 O 19 (.load K0 (.t 18)),
 O 20 (.call 1 160 [(.t 19)]),
 O 21 (.faddr 2 (.t 7)),
 O 22 (.load K0 (.t 21)),
 O 23 (.call 1 160 [(.t 22)]),
 O 24 (.faddr 1 (.t 7)),
 E (.store K0 (.t 24) (.t 20)),
 O 25 (.faddr 2 (.t 7)),
 E (.store K0 (.t 25) (.t 23))] [0, 1, 3, 0, 8, 31, 31, 127, 255, 511] [25, 24, 23, 22, 21, 20, 19, 18]) (
 sq (.reg [
 O 26 (.load (K1 3) (.t 7)),
 E (.store (K1 3) (.t 4) (.t 26)),
 O 5 (.mov (.c (.b true)))] [7, 26]) (
 .ret))))))⟩
def F173 : PF := ⟨2, [.t 4],
 sq (.reg [
 O 2 (.box (K1 3) (.t 0)),
 O 4 (.mov (.c (.b false)))] [4, 0]) (
 sq (.regD [
 O 5 (.mov (.t 1)),
 O 6 (.call 0 22 [(.t 5)]),
 O 7 (.mov (.t 6)),
 OG 8 7 true (.faddr 1 (.t 2)),
 OG 9 7 true (.load K0 (.t 8)),
 OG 10 7 true (.mov (.t 1)),
 OG 11 7 true (.call 0 257 [(.t 10)]),
 OG 12 7 true (.call 0 256 [(.t 9), (.t 11)]),
 OG 13 7 true (.un .not (.t 12)),
 O 14 (.pick (.t 7) (.t 13) (.c (.b false))),
 O 15 (.mov (.t 14)),
 OG 16 15 true (.faddr 2 (.t 2)),
 OG 17 15 true (.load K0 (.t 16)),
 OG 18 15 true (.mov (.t 1)),
 OG 19 15 true (.call 0 256 [(.t 17), (.t 18)]),
 OG 20 15 true (.un .not (.t 19)),
 O 21 (.pick (.t 15) (.t 20) (.c (.b false))),
 O 4 (.mov (.t 21))] [0, 1, 3, 7, 15, 7, 39, 127, 255, 511, 1023, 2047, 4095, 2047, 16383, 32767, 65535, 131071] [21, 20, 19, 18, 17, 16, 15, 14, 13, 12, 11, 10, 9, 2, 8, 7, 6, 1, 5]) (
 .ret))⟩
def F177 : PF := ⟨1, [.t 2, .t 3],
 sq (.reg [
 O 2 (.mov (.c (.s []))),
 O 3 (.mov (.c (I 0)))] [3, 2]) (
 sq (sq (.reg [
 O 5 (.mov (.t 0)),
 O 6 (.len true (.t 5)),
 O 7 (.bin .lss (.t 6) (.c (I 1))),
 O 8 (.mov (.t 7)),
 OG 9 8 false (.mov (.t 0)),
 OG 10 8 false (.len true (.t 9)),
 OG 11 8 false (.bin .gtr (.t 10) (.c (I 46))),
 O 12 (.pick (.t 8) (.c (.b true)) (.t 11))] [11, 10, 9, 8, 7, 6, 5]) (
 .cond (.t 12) (sq (.reg [
 O 2 (.mov (.c (.s []))),
 O 3 (.mov (.c (I 5)))] []) (
 .ret))
 (.skip))) (
 sq (sq (.reg [
 O 13 (.mov (.t 0)),
 O 14 (.call 0 259 [(.t 13)]),
 O 15 (.un .not (.t 14))] [14, 13]) (
 .cond (.t 15) (sq (.reg [
 O 2 (.mov (.c (.s []))),
 O 3 (.mov (.c (I 2)))] []) (
 .ret))
 (.skip))) (
 sq (.reg [
 O 16 (.mov (.t 0)),
 O 17 (.bin .add (.t 16) (.c (.s [48, 48]))),
 O 18 (.call 0 260 [(.t 17)]),
 O 19 (.bin .sub (.c (I 98)) (.t 18)),
 O 4 (.mov (.t 19))] [19, 18, 17, 16]) (
 sq (.regD [
 O 20 (.mov (.t 0)),
 O 21 (.mov (.t 4)),
 O 22 (.bin .quo (.t 21) (.c (I 10))),
 O 23 (.mov (.t 4)),
 O 24 (.bin .quo (.t 23) (.c (I 10))),
 O 25 (.bin .add (.t 24) (.c (I 1))),
 O 26 (.slS (.c (.s [48, 49, 50, 51, 52, 53, 54, 55, 56, 57])) (some (.t 22)) (some (.t 25))),
 O 27 (.bin .add (.t 20) (.t 26)),
 O 28 (.mov (.t 4)),
 O 29 (.bin .rem (.t 28) (.c (I 10))),
 O 30 (.mov (.t 4)),
 O 31 (.bin .rem (.t 30) (.c (I 10))),
 O 32 (.bin .add (.t 31) (.c (I 1))),
 O 33 (.slS (.c (.s [48, 49, 50, 51, 52, 53, 54, 55, 56, 57])) (some (.t 29)) (some (.t 32))),
 O 34 (.bin .add (.t 27) (.t 33)),
 O 2 (.mov (.t 34)),
 O 3 (.mov (.c (I 0)))] [0, 0, 2, 0, 8, 24, 62, 127, 0, 256, 0, 1024, 3072, 7936, 16383, 32767, 65535] [34, 33, 32, 31, 30, 29, 28, 27, 26, 25, 24, 23, 22, 4, 21, 0, 20]) (
 .ret)))))⟩
def L179_0 : PC :=
 sq (.reg [
 O 12 (.bin .lss (.t 11) (.t 10))] []) (
 sq (.cond (.t 12) (.skip)
 (.exit 0)) (
 sq (.block 1 (
 sq (.reg [
 O 13 (.iaddr (K1 3) (.t 9) (.t 11)),
 O 14 (.load (K1 3) (.t 13)),
 O 6 (.alloc (K1 3) (.a [(I 0), (I 0), (.s [])])),
 E (.store (K1 3) (.t 6) (.t 14))] [14, 13]) (
 sq (.reg [
 O 16 (.mov (.t 0)),
 O 17 (.load (K1 3) (.t 6)),
 O 18 (.call 2 262 [(.t 16), (.t 17), (.f 263)]),
 O 15 (.mov (.t 18)),
 O 19 (.ext (.t 15) 0),
 O 20 (.ext (.t 15) 1),
 O 7 (.mov (.t 19)),
 O 8 (.mov (.t 20))] [20, 19, 15, 18, 17, 16]) (
 sq (.reg [
 O 21 (.mov (.t 8))] [8]) (
 .cond (.t 21) (.regD [
 O 22 (.mov (.t 0)),
 O 23 (.mov (.t 7)),
 O 24 (.iaddr (K1 3) (.t 22) (.t 23)),
 O 25 (.faddr 1 (.t 24)),
 O 26 (.load K0 (.t 25)),
 O 27 (.faddr 1 (.t 6)),
 O 28 (.load K0 (.t 27)),
 O 29 (.bin .add (.t 26) (.t 28)),
 O 30 (.iaddr (K1 3) (.t 22) (.t 23)),
 O 31 (.faddr 1 (.t 30)),
 E (.store K0 (.t 31) (.t 29))] [0, 0, 3, 7, 15, 0, 32, 127, 255, 511, 1023] [31, 30, 29, 28, 6, 27, 26, 25, 24, 7, 23, 22])
 (.reg [
 O 32 (.mov (.t 0)),
 O 33 (.mov (.t 7)),
 O 34 (.load (K1 3) (.t 6)),
 O 35 (.bsl (K1 3) (.a [(I 0), (I 0), (.s [])]) 1 [(0, (.t 34))]),
 O 36 (.call 2 264 [(.t 32), (.t 33), (.t 35)]),
 O 0 (.mov (.t 36))] [36, 35, 6, 34, 7, 33, 32])))))) (
 .reg [
 O 37 (.bin .add (.t 11) (.c (I 1))),
 O 11 (.mov (.t 37))] [37])))
def F179 : PF := ⟨2, [.t 4],
 sq (.reg [
 O 4 (.mov (.c (.l (K1 3) [] true)))] [4]) (
 sq (sq (.reg [
 O 9 (.mov (.t 1)),
 O 10 (.len false (.t 9)),
 O 11 (.mov (.c (I 0)))] [1]) (
 .block 0 (
 .loop [0, 9, 10, 11] L179_0))) (
 sq (.reg [
 O 38 (.mov (.t 0)),
 O 4 (.mov (.t 38))] [0, 38]) (
 .ret)))⟩
def L180_0 : PC :=
 sq (sq (.reg [
 O 16 (.mov (.t 6)),
 O 17 (.mov (.t 0)),
 O 18 (.len false (.t 17)),
 O 19 (.bin .lss (.t 16) (.t 18))] [18, 17, 16]) (
 .cond (.t 19) (.skip)
 (.exit 0))) (
 sq (.block 1 (
 sq (.reg [
 O 22 (.mov (.t 0)),
 O 23 (.mov (.t 6)),
 O 24 (.iaddr (K1 3) (.t 22) (.t 23)),
 O 25 (.load (K1 3) (.t 24)),
 O 7 (.alloc (K1 3) (.a [(I 0), (I 0), (.s [])])),
 E (.store (K1 3) (.t 7) (.t 25))] [25, 24, 23, 22]) (
 sq (.reg [
 O 26 (.mov (.t 1)),
 O 27 (.load (K1 3) (.t 7)),
 O 28 (.callv (.t 26) [(.t 27)]),
 O 29 (.un .not (.t 28))] [28, 27, 26]) (
 .cond (.t 29) (sq (.reg [
 O 30 (.mov (.t 0)),
 O 31 (.mov (.t 5)),
 O 32 (.load (K1 3) (.t 7)),
 O 33 (.iaddr (K1 3) (.t 30) (.t 31)),
 E (.store (K1 3) (.t 33) (.t 32))] [33, 7, 32, 31, 30]) (
 .reg [
 O 34 (.mov (.t 5)),
 O 35 (.bin .add (.t 34) (.c (I 1))),
 O 5 (.mov (.t 35))] [35, 34]))
 (.skip))))) (
 .reg [
 O 20 (.mov (.t 6)),
 O 21 (.bin .add (.t 20) (.c (I 1))),
 O 6 (.mov (.t 21))] [21, 20]))
def F180 : PF := ⟨2, [.t 4],
 sq (.reg [
 O 4 (.mov (.c (.l (K1 3) [] true)))] [4]) (
 sq (.reg [
 O 8 (.mov (.t 0)),
 O 9 (.mov (.t 1)),
 O 10 (.call 2 265 [(.t 8), (.t 9)]),
 O 5 (.mov (.t 10))] [10, 9, 8]) (
 sq (sq (.reg [
 O 11 (.mov (.t 5)),
 O 12 (.bin .eql (.t 11) (.c (I (-1))))] [11]) (
 .cond (.t 12) (sq (.reg [
 O 13 (.mov (.t 0)),
 O 4 (.mov (.t 13))] [0, 13]) (
 .ret))
 (.skip))) (
 sq (sq (.reg [
 O 14 (.mov (.t 5)),
 O 15 (.bin .add (.t 14) (.c (I 1))),
 O 6 (.mov (.t 15))] [15, 14]) (
 .block 0 (
 .loop [0, 1, 5, 6] L180_0))) (
 sq (.reg [
 O 36 (.mov (.t 0)),
 O 37 (.mov (.t 5)),
 O 38 (.sl (K1 3) (.t 36) (some (.t 37)) none none),
 E (.clr (K1 3) (.a [(I 0), (I 0), (.s [])]) (.t 38))] [38, 37, 36]) (
 sq (.reg [
 O 39 (.mov (.t 0)),
 O 40 (.mov (.t 5)),
 O 41 (.sl (K1 3) (.t 39) none (some (.t 40)) none),
 O 4 (.mov (.t 41))] [41, 5, 40, 0, 39]) (
 .ret))))))⟩
def F181 : PF := ⟨1, [.t 2],
 sq (.reg [
 O 1 (.box (K1 3) (.t 0)),
 O 2 (.mov (.c (.b false)))] [2, 0]) (
 sq (.reg [
 O 3 (.faddr 1 (.t 1)),
 O 4 (.load K0 (.t 3)),
 O 5 (.bin .eql (.t 4) (.c (I 0))),
 O 2 (.mov (.t 5))] [5, 4, 1, 3]) (
 .ret))⟩
def F182 : PF := ⟨1, [.t 2],
 sq (.reg [
 O 2 (.mov (.c (.b false)))] [2]) (
 sq (.reg [
 O 3 (.mov (.t 0)),
 O 4 (.bin .neq (.t 3) (.c (.s []))),
 O 5 (.mov (.t 4)),
 OG 6 5 true (.mov (.t 0)),
 OG 7 5 true (.call 0 183 [(.t 6), (.c (.i .u8 33)), (.c (I 48))]),
 O 8 (.pick (.t 5) (.t 7) (.c (.b false))),
 O 2 (.mov (.t 8))] [8, 7, 6, 5, 4, 0, 3]) (
 .ret))⟩
def L183_0 : PC :=
 sq (.reg [
 O 11 (.bin .lss (.t 10) (.t 9))] []) (
 sq (.cond (.t 11) (.skip)
 (.exit 0)) (
 sq (.block 1 (
 sq (.reg [
 O 12 (.mov (.t 10)),
 O 7 (.mov (.t 12))] [12]) (
 sq (.reg [
 O 13 (.mov (.t 0)),
 O 14 (.mov (.t 7)),
 O 15 (.idxS (.t 13) (.t 14)),
 O 16 (.mov (.t 1)),
 O 17 (.bin .lss (.t 15) (.t 16)),
 O 18 (.mov (.t 17)),
 OG 19 18 false (.mov (.t 0)),
 OG 20 18 false (.mov (.t 7)),
 OG 21 18 false (.idxS (.t 19) (.t 20)),
 OG 22 18 false (.bin .gtr (.t 21) (.c (.i .u8 126))),
 O 23 (.pick (.t 18) (.c (.b true)) (.t 22))] [22, 21, 20, 19, 18, 17, 16, 15, 7, 14, 13]) (
 .cond (.t 23) (sq (.reg [
 O 6 (.mov (.c (.b false)))] []) (
 .ret))
 (.skip))))) (
 .reg [
 O 24 (.bin .add (.t 10) (.c (I 1))),
 O 10 (.mov (.t 24))] [24])))
def F183 : PF := ⟨3, [.t 6],
 sq (.reg [
 O 6 (.mov (.c (.b false)))] [6]) (
 sq (sq (.reg [
 O 8 (.mov (.t 0)),
 O 9 (.len true (.t 8)),
 O 10 (.mov (.c (I 0)))] [8]) (
 .block 0 (
 .loop [0, 1, 2, 9, 10] L183_0))) (
 sq (.reg [
 O 25 (.mov (.t 0)),
 O 26 (.len true (.t 25)),
 O 27 (.mov (.t 2)),
 O 28 (.bin .leq (.t 26) (.t 27)),
 O 6 (.mov (.t 28))] [28, 2, 27, 26, 0, 25]) (
 .ret)))⟩
def F184 : PF := ⟨1, [.t 2],
 sq (.reg [
 O 2 (.mov (.c (.b false)))] [2]) (
 sq (.reg [
 O 3 (.mov (.t 0)),
 O 4 (.bin .geq (.t 3) (.c (I 0))),
 O 5 (.mov (.t 4)),
 OG 6 5 true (.mov (.t 0)),
 OG 7 5 true (.bin .leq (.t 6) (.c (I 73048))),
 O 8 (.pick (.t 5) (.t 7) (.c (.b false))),
 O 2 (.mov (.t 8))] [8, 7, 6, 5, 4, 0, 3]) (
 .ret))⟩
def L185_0 : PC :=
 sq (.reg [
 O 7 (.bin .lss (.t 6) (.t 5))] []) (
 sq (.cond (.t 7) (.skip)
 (.exit 0)) (
 sq (.block 1 (
 sq (.reg [
 O 8 (.mov (.t 6)),
 O 3 (.mov (.t 8))] [8]) (
 sq (.reg [
 O 9 (.mov (.t 0)),
 O 10 (.mov (.t 3)),
 O 11 (.idxS (.t 9) (.t 10)),
 O 12 (.bin .lss (.t 11) (.c (.i .u8 65))),
 O 13 (.mov (.t 12)),
 OG 14 13 false (.mov (.t 0)),
 OG 15 13 false (.mov (.t 3)),
 OG 16 13 false (.idxS (.t 14) (.t 15)),
 OG 17 13 false (.bin .gtr (.t 16) (.c (.i .u8 90))),
 O 18 (.pick (.t 13) (.c (.b true)) (.t 17))] [17, 16, 15, 14, 13, 12, 11, 3, 10, 9]) (
 .cond (.t 18) (sq (.reg [
 O 2 (.mov (.c (.b false)))] []) (
 .ret))
 (.skip))))) (
 .reg [
 O 19 (.bin .add (.t 6) (.c (I 1))),
 O 6 (.mov (.t 19))] [19])))
def F185 : PF := ⟨1, [.t 2],
 sq (.reg [
 O 2 (.mov (.c (.b false)))] [2]) (
 sq (sq (.reg [
 O 4 (.mov (.t 0)),
 O 5 (.len true (.t 4)),
 O 6 (.mov (.c (I 0)))] [4]) (
 .block 0 (
 .loop [0, 5, 6] L185_0))) (
 sq (.reg [
 O 20 (.mov (.t 0)),
 O 21 (.len true (.t 20)),
 O 22 (.bin .eql (.t 21) (.c (I 3))),
 O 2 (.mov (.t 22))] [22, 21, 0, 20]) (
 .ret)))⟩
def L186_0 : PC :=
 sq (.reg [
 O 11 (.bin .lss (.t 10) (.t 9))] []) (
 sq (.cond (.t 11) (.skip)
 (.exit 0)) (
 sq (.block 1 (
 sq (.reg [
 O 12 (.iaddr (K1 3) (.t 8) (.t 10)),
 O 13 (.load (K1 3) (.t 12)),
 O 5 (.alloc (K1 3) (.a [(I 0), (I 0), (.s [])])),
 E (.store (K1 3) (.t 5) (.t 13))] [13, 12]) (
 sq (.reg [
 O 15 (.mov (.t 3)),
 O 16 (.faddr 2 (.t 5)),
 O 17 (.load K0 (.t 16)),
 O 18 (.call 2 266 [(.t 15), (.t 17), (.f 267)]),
 O 14 (.mov (.t 18)),
 O 19 (.ext (.t 14) 0),
 O 20 (.ext (.t 14) 1),
 O 6 (.mov (.t 19)),
 O 7 (.mov (.t 20))] [20, 19, 14, 18, 17, 16, 15]) (
 sq (sq (.reg [
 O 21 (.mov (.t 7)),
 O 22 (.un .not (.t 21))] [7, 21]) (
 .cond (.t 22) (.reg [
 O 23 (.mov (.t 3)),
 O 24 (.mov (.t 6)),
 O 25 (.faddr 2 (.t 5)),
 O 26 (.load K0 (.t 25)),
 O 27 (.agg [(.s []), (I 0)] [(0, K0, (.t 26))]),
 O 28 (.bsl (K1 2) (.a [(.s []), (I 0)]) 1 [(0, (.t 27))]),
 O 29 (.call 2 269 [(.t 23), (.t 24), (.t 28)]),
 O 3 (.mov (.t 29))] [29, 28, 27, 26, 25, 24, 23])
 (.skip))) (
 .regD [
 O 30 (.mov (.t 3)),
 O 31 (.mov (.t 6)),
 O 32 (.iaddr (K1 2) (.t 30) (.t 31)),
 O 33 (.faddr 1 (.t 32)),
 O 34 (.load K0 (.t 33)),
 O 35 (.faddr 1 (.t 5)),
 O 36 (.load K0 (.t 35)),
 O 37 (.bin .add (.t 34) (.t 36)),
 O 38 (.iaddr (K1 2) (.t 30) (.t 31)),
 O 39 (.faddr 1 (.t 38)),
 E (.store K0 (.t 39) (.t 37))] [0, 0, 3, 7, 15, 0, 32, 127, 255, 511, 1023] [39, 38, 37, 36, 5, 35, 34, 33, 32, 6, 31, 30]))))) (
 .reg [
 O 40 (.bin .add (.t 10) (.c (I 1))),
 O 10 (.mov (.t 40))] [40])))
def F186 : PF := ⟨1, [.t 2],
 sq (.reg [
 O 2 (.mov (.c (.l (K1 2) [] true)))] [2]) (
 sq (.reg [
 O 3 (.mov (.c (.l (K1 2) [] true)))] []) (
 sq (sq (.reg [
 O 8 (.mov (.t 0)),
 O 9 (.len false (.t 8)),
 O 10 (.mov (.c (I 0)))] [0]) (
 .block 0 (
 .loop [3, 8, 9, 10] L186_0))) (
 sq (.reg [
 O 41 (.mov (.t 3)),
 O 2 (.mov (.t 41))] [3, 41]) (
 .ret))))⟩
def F191 : PF := ⟨1, [.t 2],
 sq (.reg [
 O 1 (.box (K1 10) (.t 0)),
 O 2 (.mov (.c (I 0)))] [2, 0]) (
 sq (.block 0 (
 sq (.reg [
 O 4 (.faddr 0 (.t 1)),
 O 5 (.load K0 (.t 4)),
 O 6 (.bin .lss (.t 5) (.c (I 1))),
 O 7 (.mov (.t 6)),
 OG 8 7 false (.faddr 1 (.t 1)),
 OG 9 7 false (.load K0 (.t 8)),
 OG 10 7 false (.bin .lss (.t 9) (.c (I 1000))),
 O 11 (.pick (.t 7) (.c (.b true)) (.t 10)),
 O 12 (.mov (.t 11)),
 OG 13 12 false (.faddr 2 (.t 1)),
 OG 14 12 false (.load K0 (.t 13)),
 OG 15 12 false (.bin .lss (.t 14) (.c (I 1000))),
 O 16 (.pick (.t 12) (.c (.b true)) (.t 15)),
 O 17 (.mov (.t 16)),
 OG 18 17 false (.faddr 1 (.t 1)),
 OG 19 17 false (.load K0 (.t 18)),
 OG 20 17 false (.faddr 2 (.t 1)),
 OG 21 17 false (.load K0 (.t 20)),
 OG 22 17 false (.bin .eql (.t 19) (.t 21)),
 O 23 (.pick (.t 17) (.c (.b true)) (.t 22)),
 O 24 (.mov (.t 23)),
 OG 25 24 false (.faddr 3 (.t 1)),
 OG 26 24 false (.load K0 (.t 25)),
 OG 27 24 false (.bin .lss (.t 26) (.c (I 1))),
 O 28 (.pick (.t 24) (.c (.b true)) (.t 27)),
 O 29 (.mov (.t 28)),
 OG 30 29 false (.faddr 3 (.t 1)),
 OG 31 29 false (.load K0 (.t 30)),
 OG 32 29 false (.bin .gtr (.t 31) (.c (I 1000000000000))),
 O 33 (.pick (.t 29) (.c (.b true)) (.t 32)),
 O 3 (.mov (.t 33))] [33, 32, 31, 30, 29, 28, 27, 26, 25, 24, 23, 22, 21, 20, 19, 18, 17, 16, 15, 14, 13, 12, 11, 10, 9, 8, 7, 6, 5, 4]) (
 .cond (.t 3) (sq (.reg [
 O 2 (.mov (.c (I 1)))] []) (
 .ret))
 (sq (.reg [
 O 35 (.faddr 4 (.t 1)),
 O 36 (.load K0 (.t 35)),
 O 37 (.call 0 22 [(.t 36)]),
 O 38 (.un .not (.t 37)),
 O 39 (.mov (.t 38)),
 OG 40 39 false (.faddr 7 (.t 1)),
 OG 41 39 false (.load K0 (.t 40)),
 OG 42 39 false (.call 0 22 [(.t 41)]),
 OG 43 39 false (.un .not (.t 42)),
 O 44 (.pick (.t 39) (.c (.b true)) (.t 43)),
 O 45 (.mov (.t 44)),
 OG 46 45 false (.faddr 4 (.t 1)),
 OG 47 45 false (.load K0 (.t 46)),
 OG 48 45 false (.faddr 7 (.t 1)),
 OG 49 45 false (.load K0 (.t 48)),
 OG 50 45 false (.bin .gtr (.t 47) (.t 49)),
 O 51 (.pick (.t 45) (.c (.b true)) (.t 50)),
 O 34 (.mov (.t 51))] [51, 50, 49, 48, 47, 46, 45, 44, 43, 42, 41, 40, 39, 38, 37, 36, 35]) (
 .cond (.t 34) (sq (.reg [
 O 2 (.mov (.c (I 1)))] []) (
 .ret))
 (sq (.reg [
 O 53 (.bsl K0 (I 0) 5 [(0, (.c (I 0))), (1, (.c (I 1))), (2, (.c (I 3))), (3, (.c (I 6))), (4, (.c (I 12)))]),
 O 54 (.faddr 5 (.t 1)),
 O 55 (.load K0 (.t 54)),
 O 56 (.call 0 256 [(.t 53), (.t 55)]),
 O 57 (.un .not (.t 56)),
 O 58 (.mov (.t 57)),
 OG 59 58 false (.faddr 6 (.t 1)),
 OG 60 58 false (.load K0 (.t 59)),
 OG 61 58 false (.bin .lss (.t 60) (.c (I 1))),
 O 62 (.pick (.t 58) (.c (.b true)) (.t 61)),
 O 63 (.mov (.t 62)),
 OG 64 63 false (.faddr 6 (.t 1)),
 OG 65 63 false (.load K0 (.t 64)),
 OG 66 63 false (.bin .gtr (.t 65) (.c (I 31))),
 O 67 (.pick (.t 63) (.c (.b true)) (.t 66)),
 O 52 (.mov (.t 67))] [67, 66, 65, 64, 63, 62, 61, 60, 59, 58, 57, 56, 55, 54, 53]) (
 .cond (.t 52) (sq (.reg [
 O 2 (.mov (.c (I 1)))] []) (
 .ret))
 (sq (.reg [
 O 69 (.faddr 8 (.t 1)),
 O 70 (.load K0 (.t 69)),
 O 71 (.bin .lss (.t 70) (.c (I 0))),
 O 72 (.mov (.t 71)),
 OG 73 72 false (.faddr 8 (.t 1)),
 OG 74 72 false (.load K0 (.t 73)),
 OG 75 72 false (.bin .gtr (.t 74) (.c (I 3))),
 O 76 (.pick (.t 72) (.c (.b true)) (.t 75)),
 O 77 (.mov (.t 76)),
 OG 78 77 false (.faddr 9 (.t 1)),
 OG 79 77 false (.load K0 (.t 78)),
 OG 80 77 false (.call 0 275 [(.t 79)]),
 OG 81 77 false (.un .not (.t 80)),
 O 82 (.pick (.t 77) (.c (.b true)) (.t 81)),
 O 68 (.mov (.t 82))] [82, 81, 80, 79, 78, 77, 76, 75, 74, 73, 72, 71, 70, 1, 69]) (
 .cond (.t 68) (sq (.reg [
 O 2 (.mov (.c (I 1)))] []) (
 .ret))
 (.skip)))))))))) (
 sq (.reg [
 O 2 (.mov (.c (I 0)))] []) (
 .ret)))⟩
def F207 : PF := ⟨2, [.t 4],
 sq (.reg [
 O 4 (.mov (.c (.b false)))] [4]) (
 sq (.reg [
 O 5 (.mov (.t 0)),
 O 6 (.mov (.t 1)),
 O 7 (.call 0 291 [(.t 5), (.t 6)]),
 O 4 (.mov (.t 7))] [7, 1, 6, 0, 5]) (
 .ret))⟩
def L230_0 : PC :=
 sq (.reg [
 O 14 (.bin .lss (.t 13) (.t 12))] []) (
 sq (.cond (.t 14) (.skip)
 (.exit 0)) (
 sq (.block 1 (
 sq (.reg [
 O 15 (.iaddr (K1 3) (.t 11) (.t 13)),
 O 16 (.load (K1 3) (.t 15)),
 O 7 (.alloc (K1 3) (.a [(.s []), (.l K0 [] true), (.l K0 [] true)])),
 E (.store (K1 3) (.t 7) (.t 16))] [16, 15]) (
 .reg [
 O 17 (.mov (.t 5)),
 O 18 (.mov (.t 1)),
 O 19 (.load (K1 3) (.t 7)),
 O 20 (.callv (.t 18) [(.t 19)]),
 O 21 (.bsl (K1 3) (.a [(.s []), (.l K0 [] true), (.l K0 [] true)]) 1 [(0, (.t 20))]),
 O 22 (.app (K1 3) 64 (.t 17) (.t 21)),
 O 5 (.mov (.t 22))] [22, 21, 20, 7, 19, 18, 17]))) (
 .reg [
 O 23 (.bin .add (.t 13) (.c (I 1))),
 O 13 (.mov (.t 23))] [23])))
def F230 : PF := ⟨2, [.t 4],
 sq (.reg [
 O 4 (.mov (.c (.l (K1 3) [] true)))] [4]) (
 sq (.reg [
 O 8 (.mov (.t 0)),
 O 9 (.len false (.t 8)),
 O 10 (.mksl (K1 3) 64 (.a [(.s []), (.l K0 [] true), (.l K0 [] true)]) (.c (I 0)) (.t 9)),
 O 5 (.mov (.t 10))] [10, 9, 8]) (
 sq (sq (.reg [
 O 11 (.mov (.t 0)),
 O 12 (.len false (.t 11)),
 O 13 (.mov (.c (I 0)))] [0]) (
 .block 0 (
 .loop [1, 5, 11, 12, 13] L230_0))) (
 sq (.reg [
 O 24 (.mov (.t 5)),
 O 4 (.mov (.t 24))] [5, 24]) (
 .ret))))⟩
def F231 : PF := ⟨1, [.c 2 (K1 3)],
 sq (.reg [
 O 1 (.box (K1 3) (.t 0)),
 O 2 (.alloc (K1 3) (.a [(.s []), (.l K0 [] true), (.l K0 [] true)]))] [0]) (
 sq (.regD [
 O 3 (.faddr 1 (.t 1)),
 O 4 (.load K0 (.t 3)),
 O 5 (.call 1 160 [(.t 4)]),
 O 6 (.faddr 2 (.t 1)),
 O 7 (.load K0 (.t 6)),
 O 8 (.call 1 160 [(.t 7)]),
 O 9 (.faddr 1 (.t 1)),
 E (.store K0 (.t 9) (.t 5)),
 O 10 (.faddr 2 (.t 1)),
 E (.store K0 (.t 10) (.t 8))] [0, 1, 3, 0, 8, 31, 31, 127, 255, 511] [10, 9, 8, 7, 6, 5, 4, 3]) (
 sq (.reg [
 O 11 (.load (K1 3) (.t 1)),
 E (.store (K1 3) (.t 2) (.t 11))] [1, 11]) (
 .ret)))⟩
def L232_0 : PC :=
 sq (.reg [
 O 14 (.bin .lss (.t 13) (.t 12))] []) (
 sq (.cond (.t 14) (.skip)
 (.exit 0)) (
 sq (.block 1 (
 sq (.reg [
 O 15 (.iaddr (K1 19) (.t 11) (.t 13)),
 O 16 (.load (K1 19) (.t 15)),
 O 7 (.alloc (K1 19) (.a [(.s []), (.s []), (.s []), (I 0), (I 0), (I 0), (I 0), (.l (K1 2) [] true), (.b false), (I 0), (I 0), (.b false), (.l (K1 2) [] true), (.b false), (I 0), (I 0), (.b false), (.l (K1 10) [] true), (.l (K1 6) [] true)])),
 E (.store (K1 19) (.t 7) (.t 16))] [16, 15]) (
 .reg [
 O 17 (.mov (.t 5)),
 O 18 (.mov (.t 1)),
 O 19 (.load (K1 19) (.t 7)),
 O 20 (.callv (.t 18) [(.t 19)]),
 O 21 (.bsl (K1 19) (.a [(.s []), (.s []), (.s []), (I 0), (I 0), (I 0), (I 0), (.l (K1 2) [] true), (.b false), (I 0), (I 0), (.b false), (.l (K1 2) [] true), (.b false), (I 0), (I 0), (.b false), (.l (K1 10) [] true), (.l (K1 6) [] true)]) 1 [(0, (.t 20))]),
 O 22 (.app (K1 19) 240 (.t 17) (.t 21)),
 O 5 (.mov (.t 22))] [22, 21, 20, 7, 19, 18, 17]))) (
 .reg [
 O 23 (.bin .add (.t 13) (.c (I 1))),
 O 13 (.mov (.t 23))] [23])))
def F232 : PF := ⟨2, [.t 4],
 sq (.reg [
 O 4 (.mov (.c (.l (K1 19) [] true)))] [4]) (
 sq (.reg [
 O 8 (.mov (.t 0)),
 O 9 (.len false (.t 8)),
 O 10 (.mksl (K1 19) 240 (.a [(.s []), (.s []), (.s []), (I 0), (I 0), (I 0), (I 0), (.l (K1 2) [] true), (.b false), (I 0), (I 0), (.b false), (.l (K1 2) [] true), (.b false), (I 0), (I 0), (.b false), (.l (K1 10) [] true), (.l (K1 6) [] true)]) (.c (I 0)) (.t 9)),
 O 5 (.mov (.t 10))] [10, 9, 8]) (
 sq (sq (.reg [
 O 11 (.mov (.t 0)),
 O 12 (.len false (.t 11)),
 O 13 (.mov (.c (I 0)))] [0]) (
 .block 0 (
 .loop [1, 5, 11, 12, 13] L232_0))) (
 sq (.reg [
 O 24 (.mov (.t 5)),
 O 4 (.mov (.t 24))] [5, 24]) (
 .ret))))⟩
def F233 : PF := ⟨1, [.c 2 (K1 19)],
 sq (.reg [
 O 1 (.box (K1 19) (.t 0)),
 O 2 (.alloc (K1 19) (.a [(.s []), (.s []), (.s []), (I 0), (I 0), (I 0), (I 0), (.l (K1 2) [] true), (.b false), (I 0), (I 0), (.b false), (.l (K1 2) [] true), (.b false), (I 0), (I 0), (.b false), (.l (K1 10) [] true), (.l (K1 6) [] true)]))] [0]) (
 sq (.regD [
 O 3 (.faddr 7 (.t 1)),
 O 4 (.load (K1 5) (.t 3)),
 O 5 (.call 0 304 [(.t 4)]),
 O 6 (.faddr 12 (.t 1)),
 O 7 (.load (K1 5) (.t 6)),
 O 8 (.call 0 304 [(.t 7)]),
 O 9 (.faddr 7 (.t 1)),
 E (.store (K1 5) (.t 9) (.t 5)),
 O 10 (.faddr 12 (.t 1)),
 E (.store (K1 5) (.t 10) (.t 8))] [0, 1, 3, 0, 8, 31, 31, 127, 255, 511] [10, 9, 8, 7, 6, 5, 4, 3]) (
 sq (.reg [
 O 11 (.faddr 17 (.t 1)),
 O 12 (.load K0 (.t 11)),
 O 13 (.call 2 305 [(.t 12), (.f 306)]),
 O 14 (.faddr 17 (.t 1)),
 E (.store K0 (.t 14) (.t 13))] [14, 13, 12, 11]) (
 sq (.reg [
 O 15 (.faddr 18 (.t 1)),
 O 16 (.load K0 (.t 15)),
 O 17 (.call 2 308 [(.t 16), (.f 309)]),
 O 18 (.faddr 18 (.t 1)),
 E (.store K0 (.t 18) (.t 17))] [18, 17, 16, 15]) (
 sq (.reg [
 O 19 (.load (K1 19) (.t 1)),
 E (.store (K1 19) (.t 2) (.t 19))] [1, 19]) (
 .ret)))))⟩
def F234 : PF := ⟨1, [.t 2],
 sq (.reg [
 O 2 (.mov (.c (.l (K1 10) [] true)))] [2]) (
 sq (.reg [
 O 3 (.mov (.t 0)),
 O 4 (.call 2 310 [(.t 3), (.f 10)]),
 O 2 (.mov (.t 4))] [4, 0, 3]) (
 .ret))⟩
def F242 : PF := ⟨1, [.t 2, .t 3],
 sq (.reg [
 O 2 (.mov (.c (.i .u64 0))),
 O 3 (.mov (.c (I 0)))] [3, 2]) (
 sq (sq (.reg [
 O 4 (.mov (.t 0)),
 O 5 (.len false (.t 4)),
 O 6 (.bin .eql (.t 5) (.c (I 0)))] [5, 4]) (
 .cond (.t 6) (sq (.reg [
 O 2 (.mov (.c (.i .u64 0))),
 O 3 (.mov (.c (I (-1))))] []) (
 .ret))
 (.skip))) (
 sq (.regD [
 O 7 (.mov (.t 0)),
 O 8 (.mov (.t 0)),
 O 9 (.len false (.t 8)),
 O 10 (.bin .sub (.t 9) (.c (I 1))),
 O 11 (.iaddr (K1 10) (.t 7) (.t 10)),
 O 12 (.faddr 9 (.t 11)),
 O 13 (.load K0 (.t 12)),
 O 14 (.mov (.t 0)),
 O 15 (.mov (.t 0)),
 O 16 (.len false (.t 15)),
 O 17 (.bin .sub (.t 16) (.c (I 1))),
 O 18 (.iaddr (K1 10) (.t 14) (.t 17)),
 O 19 (.faddr 1 (.t 18)),
 O 20 (.load K0 (.t 19)),
 O 2 (.mov (.t 13)),
 O 3 (.mov (.t 20))] [0, 0, 2, 6, 15, 31, 63, 0, 0, 256, 768, 1920, 3968, 8064, 127, 32767] [20, 19, 18, 17, 16, 15, 14, 13, 12, 11, 10, 9, 8, 0, 7]) (
 .ret)))⟩
def F243 : PF := ⟨3, [.c 6 (K1 10)],
 sq (.reg [
 O 3 (.box (K1 10) (.t 0)),
 O 6 (.alloc (K1 10) (.a [(I 0), (I 0), (I 0), (I 0), (I 0), (I 0), (.s []), (.s []), (.l (K1 3) [] true), (.i .u64 0)]))] [0]) (
 sq (.reg [
 O 7 (.mov (.t 1)),
 O 8 (.bin .add (.t 7) (.c (I 1))),
 O 9 (.faddr 0 (.t 3)),
 E (.store K0 (.t 9) (.t 8))] [9, 8, 1, 7]) (
 sq (.reg [
 O 10 (.faddr 8 (.t 3)),
 O 11 (.load K0 (.t 10)),
 O 12 (.call 1 15 [(.t 11)]),
 O 13 (.faddr 8 (.t 3)),
 E (.store K0 (.t 13) (.t 12))] [13, 12, 11, 10]) (
 sq (.reg [
 O 14 (.mov (.t 2)),
 O 15 (.load (K1 10) (.t 3)),
 O 16 (.call 0 327 [(.t 15)]),
 O 17 (.call 0 326 [(.t 14), (.t 16)]),
 O 18 (.faddr 9 (.t 3)),
 E (.store K0 (.t 18) (.t 17))] [18, 17, 16, 15, 2, 14]) (
 sq (.reg [
 O 19 (.load (K1 10) (.t 3)),
 E (.store (K1 10) (.t 6) (.t 19))] [3, 19]) (
 .ret)))))⟩
def L244_0 : PC :=
 sq (.reg [
 O 9 (.bin .lss (.t 8) (.t 7))] []) (
 sq (.cond (.t 9) (.skip)
 (.exit 0)) (
 sq (.block 1 (
 sq (.reg [
 O 10 (.mov (.t 8)),
 O 5 (.mov (.t 10))] [10]) (
 sq (.reg [
 O 11 (.mov (.t 1)),
 O 12 (.mov (.t 0)),
 O 13 (.mov (.t 5)),
 O 14 (.iaddr (K1 10) (.t 12) (.t 13)),
 O 15 (.load (K1 10) (.t 14)),
 O 16 (.callv (.t 11) [(.t 15)])] [15, 14, 13, 12, 11]) (
 .cond (.t 16) (sq (.reg [
 O 17 (.mov (.t 5)),
 O 4 (.mov (.t 17))] [5, 17]) (
 .ret))
 (.skip))))) (
 .reg [
 O 18 (.bin .add (.t 8) (.c (I 1))),
 O 8 (.mov (.t 18))] [18])))
def F244 : PF := ⟨2, [.t 4],
 sq (.reg [
 O 4 (.mov (.c (I 0)))] [4]) (
 sq (sq (.reg [
 O 6 (.mov (.t 0)),
 O 7 (.len false (.t 6)),
 O 8 (.mov (.c (I 0)))] [6]) (
 .block 0 (
 .loop [0, 1, 7, 8] L244_0))) (
 sq (.reg [
 O 4 (.mov (.c (I (-1))))] []) (
 .ret)))⟩
def F245 : PF := ⟨2, [.t 4],
 sq (.reg [
 O 2 (.box (K1 22) (.t 0)),
 O 3 (.box (K1 3) (.t 1)),
 O 4 (.mov (.c (I 0)))] [4, 1, 0]) (
 sq (sq (.reg [
 O 10 (.faddr 2 (.t 2)),
 O 11 (.load K0 (.t 10)),
 O 12 (.faddr 0 (.t 3)),
 O 13 (.load K0 (.t 12)),
 O 14 (.call 0 318 [(.t 11), (.t 13)]),
 O 9 (.mov (.t 14)),
 O 15 (.ext (.t 9) 0),
 O 16 (.ext (.t 9) 1),
 O 5 (.alloc (K1 4) (.a [(I 0), (I 0), (I 0), (.s [])])),
 E (.store (K1 4) (.t 5) (.t 15)),
 O 6 (.mov (.t 16))] [5, 16, 15, 9, 14, 13, 12, 11, 10]) (
 sq (.reg [
 O 17 (.mov (.t 6)),
 O 18 (.un .not (.t 17)),
 O 19 (.mov (.t 18)),
 OG 20 19 false (.faddr 2 (.t 2)),
 OG 21 19 false (.load K0 (.t 20)),
 OG 22 19 false (.mkf 329 [(.t 3)]),
 OG 23 19 false (.call 2 328 [(.t 21), (.t 22)]),
 O 24 (.pick (.t 19) (.c (.b true)) (.t 23))] [23, 22, 21, 20, 19, 18, 6, 17]) (
 .cond (.t 24) (sq (.reg [
 O 4 (.mov (.c (I 11)))] []) (
 .ret))
 (.skip)))) (
 sq (sq (.reg [
 O 26 (.faddr 0 (.t 2)),
 O 27 (.load K0 (.t 26)),
 O 28 (.faddr 2 (.t 3)),
 O 29 (.load K0 (.t 28)),
 O 30 (.call 0 330 [(.t 27), (.t 29)]),
 O 25 (.mov (.t 30)),
 O 31 (.ext (.t 25) 0),
 O 32 (.ext (.t 25) 1),
 O 7 (.alloc (K1 2) (.a [(.s []), (I 0)])),
 E (.store (K1 2) (.t 7) (.t 31)),
 O 8 (.mov (.t 32))] [7, 32, 31, 25, 30, 29, 3, 28, 27, 2, 26]) (
 sq (.reg [
 O 33 (.mov (.t 8)),
 O 34 (.un .not (.t 33))] [8, 33]) (
 .cond (.t 34) (sq (.reg [
 O 4 (.mov (.c (I 14)))] []) (
 .ret))
 (.skip)))) (
 sq (.reg [
 O 4 (.mov (.c (I 0)))] []) (
 .ret))))⟩
def F246 : PF := ⟨3, [.t 6],
 sq (.reg [
 O 3 (.box (K1 22) (.t 0)),
 O 4 (.box (K1 3) (.t 1)),
 O 6 (.mov (.c (I 0)))] [6, 1, 0]) (
 sq (.reg [
 O 14 (.load (K1 22) (.t 3)),
 O 15 (.faddr 0 (.t 4)),
 O 16 (.load K0 (.t 15)),
 O 17 (.call 0 12 [(.t 14), (.t 16)]),
 O 13 (.mov (.t 17)),
 O 18 (.ext (.t 13) 0),
 O 19 (.ext (.t 13) 1),
 O 7 (.alloc (K1 7) (.a [(I 0), (I 0), (I 0), (I 0), (.s []), (.s []), (.s [])])),
 E (.store (K1 7) (.t 7) (.t 18)),
 O 8 (.mov (.t 19))] [19, 18, 13, 17, 16, 15, 14]) (
 sq (sq (.reg [
 O 20 (.mov (.t 8)),
 O 21 (.un .not (.t 20))] [8, 20]) (
 .cond (.t 21) (sq (.reg [
 O 6 (.mov (.c (I 11)))] []) (
 .ret))
 (.skip))) (
 sq (sq (.reg [
 O 23 (.faddr 0 (.t 3)),
 O 24 (.load K0 (.t 23)),
 O 25 (.faddr 2 (.t 4)),
 O 26 (.load K0 (.t 25)),
 O 27 (.call 0 330 [(.t 24), (.t 26)]),
 O 22 (.mov (.t 27)),
 O 28 (.ext (.t 22) 0),
 O 29 (.ext (.t 22) 1),
 O 9 (.alloc (K1 2) (.a [(.s []), (I 0)])),
 E (.store (K1 2) (.t 9) (.t 28)),
 O 10 (.mov (.t 29))] [9, 29, 28, 22, 27, 26, 25, 24, 23]) (
 sq (.reg [
 O 30 (.mov (.t 10)),
 O 31 (.un .not (.t 30))] [10, 30]) (
 .cond (.t 31) (sq (.reg [
 O 6 (.mov (.c (I 14)))] []) (
 .ret))
 (.skip)))) (
 sq (sq (.reg [
 O 33 (.load (K1 22) (.t 3)),
 O 34 (.load (K1 7) (.t 7)),
 O 35 (.call 0 331 [(.t 33), (.t 34)]),
 O 32 (.mov (.t 35)),
 O 36 (.ext (.t 32) 0),
 O 37 (.ext (.t 32) 1),
 O 11 (.mov (.t 36)),
 O 12 (.mov (.t 37))] [37, 36, 32, 35, 7, 34, 33]) (
 sq (.reg [
 O 38 (.mov (.t 12)),
 O 39 (.un .not (.t 38)),
 O 40 (.mov (.t 39)),
 OG 41 40 false (.mov (.t 11)),
 OG 42 40 false (.faddr 2 (.t 4)),
 OG 43 40 false (.load K0 (.t 42)),
 OG 44 40 false (.bin .neq (.t 41) (.t 43)),
 O 45 (.pick (.t 40) (.c (.b true)) (.t 44))] [44, 43, 42, 11, 41, 40, 39, 12, 38]) (
 .cond (.t 45) (sq (.reg [
 O 6 (.mov (.c (I 14)))] []) (
 .ret))
 (.skip)))) (
 sq (sq (.reg [
 O 46 (.load (K1 22) (.t 3)),
 O 47 (.faddr 0 (.t 4)),
 O 48 (.load K0 (.t 47)),
 O 49 (.mov (.t 2)),
 O 50 (.call 0 39 [(.t 46), (.t 48), (.t 49)]),
 O 51 (.un .not (.t 50))] [50, 2, 49, 48, 4, 47, 3, 46]) (
 .cond (.t 51) (sq (.reg [
 O 6 (.mov (.c (I 16)))] []) (
 .ret))
 (.skip))) (
 sq (.reg [
 O 6 (.mov (.c (I 0)))] []) (
 .ret)))))))⟩
def L254_0 : PC :=
 sq (.reg [
 O 9 (.bin .lss (.t 8) (.t 7))] []) (
 sq (.cond (.t 9) (.skip)
 (.exit 0)) (
 sq (.block 1 (
 sq (.reg [
 O 10 (.mov (.t 8)),
 O 5 (.mov (.t 10))] [10]) (
 sq (.reg [
 O 11 (.mov (.t 1)),
 O 12 (.mov (.t 0)),
 O 13 (.mov (.t 5)),
 O 14 (.iaddr (K1 3) (.t 12) (.t 13)),
 O 15 (.load (K1 3) (.t 14)),
 O 16 (.callv (.t 11) [(.t 15)])] [15, 14, 13, 12, 11]) (
 .cond (.t 16) (sq (.reg [
 O 17 (.mov (.t 5)),
 O 4 (.mov (.t 17))] [5, 17]) (
 .ret))
 (.skip))))) (
 .reg [
 O 18 (.bin .add (.t 8) (.c (I 1))),
 O 8 (.mov (.t 18))] [18])))
def F254 : PF := ⟨2, [.t 4],
 sq (.reg [
 O 4 (.mov (.c (I 0)))] [4]) (
 sq (sq (.reg [
 O 6 (.mov (.t 0)),
 O 7 (.len false (.t 6)),
 O 8 (.mov (.c (I 0)))] [6]) (
 .block 0 (
 .loop [0, 1, 7, 8] L254_0))) (
 sq (.reg [
 O 4 (.mov (.c (I (-1))))] []) (
 .ret)))⟩
def F255 : PF := ⟨2, [.t 3],
 sq (.reg [
 O 2 (.box (K1 3) (.t 0)),
 O 3 (.mov (.c (.b false)))] [3, 0]) (
 sq (.reg [
 O 4 (.faddr 0 (.t 2)),
 O 5 (.load K0 (.t 4)),
 O 6 (.load K0 (.t 1)),
 O 7 (.bin .eql (.t 5) (.t 6)),
 O 3 (.mov (.t 7))] [7, 1, 6, 5, 2, 4]) (
 .ret))⟩
def F256 : PF := ⟨2, [.t 4],
 sq (.reg [
 O 4 (.mov (.c (.b false)))] [4]) (
 sq (.reg [
 O 5 (.mov (.t 0)),
 O 6 (.mov (.t 1)),
 O 7 (.call 0 335 [(.t 5), (.t 6)]),
 O 8 (.bin .geq (.t 7) (.c (I 0))),
 O 4 (.mov (.t 8))] [8, 7, 1, 6, 0, 5]) (
 .ret))⟩
def F257 : PF := ⟨1, [.t 2],
 sq (.reg [
 O 2 (.mov (.c (I 0)))] [2]) (
 sq (sq (.reg [
 O 3 (.mov (.t 0)),
 O 4 (.call 0 22 [(.t 3)]),
 O 5 (.un .not (.t 4))] [4, 3]) (
 .cond (.t 5) (sq (.reg [
 O 2 (.mov (.c (I (-1))))] []) (
 .ret))
 (.skip))) (
 sq (.reg [
 O 6 (.mov (.t 0)),
 O 7 (.bin .add (.t 6) (.c (I 5))),
 O 8 (.bin .rem (.t 7) (.c (I 7))),
 O 2 (.mov (.t 8))] [8, 7, 0, 6]) (
 .ret)))⟩
def L259_0 : PC :=
 sq (sq (.reg [
 O 4 (.mov (.t 3)),
 O 5 (.mov (.t 0)),
 O 6 (.len true (.t 5)),
 O 7 (.bin .lss (.t 4) (.t 6))] [6, 5, 4]) (
 .cond (.t 7) (.skip)
 (.exit 0))) (
 sq (.block 1 (
 sq (.reg [
 O 10 (.mov (.t 0)),
 O 11 (.mov (.t 3)),
 O 12 (.idxS (.t 10) (.t 11)),
 O 13 (.bin .lss (.t 12) (.c (.i .u8 48))),
 O 14 (.mov (.t 13)),
 OG 15 14 false (.mov (.t 0)),
 OG 16 14 false (.mov (.t 3)),
 OG 17 14 false (.idxS (.t 15) (.t 16)),
 OG 18 14 false (.bin .gtr (.t 17) (.c (.i .u8 57))),
 O 19 (.pick (.t 14) (.c (.b true)) (.t 18)),
 O 20 (.mov (.t 19)),
 OG 21 20 true (.mov (.t 0)),
 OG 22 20 true (.mov (.t 3)),
 OG 23 20 true (.idxS (.t 21) (.t 22)),
 OG 24 20 true (.bin .lss (.t 23) (.c (.i .u8 65))),
 OG 25 20 true (.mov (.t 24)),
 OG 26 25 false (.mov (.t 0)),
 OG 27 25 false (.mov (.t 3)),
 OG 28 25 false (.idxS (.t 26) (.t 27)),
 OG 29 25 false (.bin .gtr (.t 28) (.c (.i .u8 90))),
 OG 30 20 true (.pick (.t 25) (.c (.b true)) (.t 29)),
 O 31 (.pick (.t 20) (.t 30) (.c (.b false)))] [30, 29, 28, 27, 26, 25, 24, 23, 22, 21, 20, 19, 18, 17, 16, 15, 14, 13, 12, 11, 10]) (
 .cond (.t 31) (sq (.reg [
 O 2 (.mov (.c (.b false)))] []) (
 .ret))
 (.skip)))) (
 .reg [
 O 8 (.mov (.t 3)),
 O 9 (.bin .add (.t 8) (.c (I 1))),
 O 3 (.mov (.t 9))] [9, 8]))
def F259 : PF := ⟨1, [.t 2],
 sq (.reg [
 O 2 (.mov (.c (.b false)))] [2]) (
 sq (sq (.reg [
 O 3 (.mov (.c (I 0)))] []) (
 .block 0 (
 .loop [0, 3] L259_0))) (
 sq (.reg [
 O 2 (.mov (.c (.b true)))] []) (
 .ret)))⟩
def L260_0 : PC :=
 sq (sq (.reg [
 O 5 (.mov (.t 4)),
 O 6 (.mov (.t 0)),
 O 7 (.len true (.t 6)),
 O 8 (.bin .lss (.t 5) (.t 7))] [7, 6, 5]) (
 .cond (.t 8) (.skip)
 (.exit 0))) (
 sq (.block 1 (
 sq (.reg [
 O 11 (.mov (.t 0)),
 O 12 (.mov (.t 4)),
 O 13 (.idxS (.t 11) (.t 12)),
 O 14 (.bin .leq (.t 13) (.c (.i .u8 57)))] [13, 12, 11]) (
 .cond (.t 14) (.reg [
 O 15 (.mov (.t 3)),
 O 16 (.bin .mul (.c (I 10)) (.t 15)),
 O 17 (.mov (.t 0)),
 O 18 (.mov (.t 4)),
 O 19 (.idxS (.t 17) (.t 18)),
 O 20 (.bin .sub (.t 19) (.c (.i .u8 48))),
 O 21 (.conv .i64 (.t 20)),
 O 22 (.bin .add (.t 16) (.t 21)),
 O 23 (.bin .rem (.t 22) (.c (I 97))),
 O 3 (.mov (.t 23))] [23, 22, 21, 20, 19, 18, 17, 16, 15])
 (.reg [
 O 24 (.mov (.t 3)),
 O 25 (.bin .mul (.c (I 100)) (.t 24)),
 O 26 (.mov (.t 0)),
 O 27 (.mov (.t 4)),
 O 28 (.idxS (.t 26) (.t 27)),
 O 29 (.bin .sub (.t 28) (.c (.i .u8 65))),
 O 30 (.conv .i64 (.t 29)),
 O 31 (.bin .add (.t 25) (.t 30)),
 O 32 (.bin .add (.t 31) (.c (I 10))),
 O 33 (.bin .rem (.t 32) (.c (I 97))),
 O 3 (.mov (.t 33))] [33, 32, 31, 30, 29, 28, 27, 26, 25, 24])))) (
 .reg [
 O 9 (.mov (.t 4)),
 O 10 (.bin .add (.t 9) (.c (I 1))),
 O 4 (.mov (.t 10))] [10, 9]))
def F260 : PF := ⟨1, [.t 2],
 sq (.reg [
 O 2 (.mov (.c (I 0)))] [2]) (
 sq (.reg [
 O 3 (.mov (.c (I 0)))] []) (
 sq (sq (.reg [
 O 4 (.mov (.c (I 0)))] []) (
 .block 0 (
 .loop [0, 3, 4] L260_0))) (
 sq (.reg [
 O 34 (.mov (.t 3)),
 O 2 (.mov (.t 34))] [3, 34]) (
 .ret))))⟩
def L262_0 : PC :=
 sq (sq (.reg [
 O 15 (.mov (.t 9)),
 O 16 (.mov (.t 10)),
 O 17 (.bin .lss (.t 15) (.t 16))] [16, 15]) (
 .cond (.t 17) (.skip)
 (.exit 0))) (
 .block 1 (
 sq (.reg [
 O 18 (.mov (.t 9)),
 O 19 (.mov (.t 10)),
 O 20 (.bin .add (.t 18) (.t 19)),
 O 21 (.conv .u64 (.t 20)),
 O 22 (.bin .shr (.t 21) (.c (.i .u64 1))),
 O 23 (.conv .i64 (.t 22)),
 O 11 (.mov (.t 23))] [23, 22, 21, 20, 19, 18]) (
 sq (.regD [
 O 24 (.mov (.t 2)),
 O 25 (.mov (.t 0)),
 O 26 (.mov (.t 11)),
 O 27 (.iaddr (K1 3) (.t 25) (.t 26)),
 O 28 (.load (K1 3) (.t 27)),
 O 29 (.load (K1 3) (.t 4)),
 O 30 (.callv (.t 24) [(.t 28), (.t 29)]),
 O 31 (.bin .lss (.t 30) (.c (I 0)))] [0, 0, 0, 6, 14, 0, 63, 127] [30, 29, 28, 27, 26, 25, 24]) (
 .cond (.t 31) (.reg [
 O 32 (.mov (.t 11)),
 O 33 (.bin .add (.t 32) (.c (I 1))),
 O 9 (.mov (.t 33))] [33, 11, 32])
 (.reg [
 O 34 (.mov (.t 11)),
 O 10 (.mov (.t 34))] [11, 34])))))
def F262 : PF := ⟨3, [.t 6, .t 7],
 sq (.reg [
 O 4 (.box (K1 3) (.t 1)),
 O 6 (.mov (.c (I 0))),
 O 7 (.mov (.c (.b false)))] [7, 6, 1]) (
 sq (.reg [
 O 12 (.mov (.t 0)),
 O 13 (.len false (.t 12)),
 O 8 (.mov (.t 13))] [13, 12]) (
 sq (.reg [
 O 14 (.mov (.t 8)),
 O 9 (.mov (.c (I 0))),
 O 10 (.mov (.t 14))] [14]) (
 sq (.block 0 (
 .loop [0, 2, 4, 8, 9, 10] L262_0)) (
 sq (.regD [
 O 35 (.mov (.t 9)),
 O 36 (.mov (.t 9)),
 O 37 (.mov (.t 8)),
 O 38 (.bin .lss (.t 36) (.t 37)),
 O 39 (.mov (.t 38)),
 OG 40 39 true (.mov (.t 2)),
 OG 41 39 true (.mov (.t 0)),
 OG 42 39 true (.mov (.t 9)),
 OG 43 39 true (.iaddr (K1 3) (.t 41) (.t 42)),
 OG 44 39 true (.load (K1 3) (.t 43)),
 OG 45 39 true (.load (K1 3) (.t 4)),
 OG 46 39 true (.callv (.t 40) [(.t 44), (.t 45)]),
 OG 47 39 true (.bin .eql (.t 46) (.c (I 0))),
 O 48 (.pick (.t 39) (.t 47) (.c (.b false))),
 O 6 (.mov (.t 35)),
 O 7 (.mov (.t 48))] [0, 0, 0, 6, 14, 30, 30, 30, 222, 478, 30, 2046, 4094, 8190, 4095, 32767] [48, 47, 46, 4, 45, 44, 43, 42, 0, 41, 2, 40, 39, 38, 8, 37, 36, 9, 35]) (
 .ret)))))⟩
def F263 : PF := ⟨2, [.t 4],
 sq (.reg [
 O 2 (.box (K1 3) (.t 0)),
 O 3 (.box (K1 3) (.t 1)),
 O 4 (.mov (.c (I 0)))] [4, 1, 0]) (
 sq (.regD [
 O 5 (.faddr 0 (.t 2)),
 O 6 (.load K0 (.t 5)),
 O 7 (.faddr 0 (.t 3)),
 O 8 (.load K0 (.t 7)),
 O 9 (.call 0 342 [(.t 6), (.t 8)]),
 O 10 (.faddr 2 (.t 2)),
 O 11 (.load K0 (.t 10)),
 O 12 (.faddr 2 (.t 3)),
 O 13 (.load K0 (.t 12)),
 O 14 (.call 0 268 [(.t 11), (.t 13)]),
 O 15 (.bsl K0 (I 0) 2 [(0, (.t 9)), (1, (.t 14))]),
 O 16 (.call 0 341 [(.t 15)]),
 O 4 (.mov (.t 16))] [0, 1, 0, 4, 15, 0, 32, 0, 128, 511, 1023, 2047, 4095] [16, 15, 14, 13, 12, 11, 10, 9, 8, 3, 7, 6, 2, 5]) (
 .ret))⟩
def L265_0 : PC :=
 sq (.reg [
 O 9 (.bin .lss (.t 8) (.t 7))] []) (
 sq (.cond (.t 9) (.skip)
 (.exit 0)) (
 sq (.block 1 (
 sq (.reg [
 O 10 (.mov (.t 8)),
 O 5 (.mov (.t 10))] [10]) (
 sq (.reg [
 O 11 (.mov (.t 1)),
 O 12 (.mov (.t 0)),
 O 13 (.mov (.t 5)),
 O 14 (.iaddr (K1 3) (.t 12) (.t 13)),
 O 15 (.load (K1 3) (.t 14)),
 O 16 (.callv (.t 11) [(.t 15)])] [15, 14, 13, 12, 11]) (
 .cond (.t 16) (sq (.reg [
 O 17 (.mov (.t 5)),
 O 4 (.mov (.t 17))] [5, 17]) (
 .ret))
 (.skip))))) (
 .reg [
 O 18 (.bin .add (.t 8) (.c (I 1))),
 O 8 (.mov (.t 18))] [18])))
def F265 : PF := ⟨2, [.t 4],
 sq (.reg [
 O 4 (.mov (.c (I 0)))] [4]) (
 sq (sq (.reg [
 O 6 (.mov (.t 0)),
 O 7 (.len false (.t 6)),
 O 8 (.mov (.c (I 0)))] [6]) (
 .block 0 (
 .loop [0, 1, 7, 8] L265_0))) (
 sq (.reg [
 O 4 (.mov (.c (I (-1))))] []) (
 .ret)))⟩
def L266_0 : PC :=
 sq (sq (.reg [
 O 15 (.mov (.t 9)),
 O 16 (.mov (.t 10)),
 O 17 (.bin .lss (.t 15) (.t 16))] [16, 15]) (
 .cond (.t 17) (.skip)
 (.exit 0))) (
 .block 1 (
 sq (.reg [
 O 18 (.mov (.t 9)),
 O 19 (.mov (.t 10)),
 O 20 (.bin .add (.t 18) (.t 19)),
 O 21 (.conv .u64 (.t 20)),
 O 22 (.bin .shr (.t 21) (.c (.i .u64 1))),
 O 23 (.conv .i64 (.t 22)),
 O 11 (.mov (.t 23))] [23, 22, 21, 20, 19, 18]) (
 sq (.reg [
 O 24 (.mov (.t 2)),
 O 25 (.mov (.t 0)),
 O 26 (.mov (.t 11)),
 O 27 (.iaddr (K1 2) (.t 25) (.t 26)),
 O 28 (.load (K1 2) (.t 27)),
 O 29 (.mov (.t 1)),
 O 30 (.callv (.t 24) [(.t 28), (.t 29)]),
 O 31 (.bin .lss (.t 30) (.c (I 0)))] [30, 29, 28, 27, 26, 25, 24]) (
 .cond (.t 31) (.reg [
 O 32 (.mov (.t 11)),
 O 33 (.bin .add (.t 32) (.c (I 1))),
 O 9 (.mov (.t 33))] [33, 11, 32])
 (.reg [
 O 34 (.mov (.t 11)),
 O 10 (.mov (.t 34))] [11, 34])))))
def F266 : PF := ⟨3, [.t 6, .t 7],
 sq (.reg [
 O 6 (.mov (.c (I 0))),
 O 7 (.mov (.c (.b false)))] [7, 6]) (
 sq (.reg [
 O 12 (.mov (.t 0)),
 O 13 (.len false (.t 12)),
 O 8 (.mov (.t 13))] [13, 12]) (
 sq (.reg [
 O 14 (.mov (.t 8)),
 O 9 (.mov (.c (I 0))),
 O 10 (.mov (.t 14))] [14]) (
 sq (.block 0 (
 .loop [0, 1, 2, 8, 9, 10] L266_0)) (
 sq (.reg [
 O 35 (.mov (.t 9)),
 O 36 (.mov (.t 9)),
 O 37 (.mov (.t 8)),
 O 38 (.bin .lss (.t 36) (.t 37)),
 O 39 (.mov (.t 38)),
 OG 40 39 true (.mov (.t 2)),
 OG 41 39 true (.mov (.t 0)),
 OG 42 39 true (.mov (.t 9)),
 OG 43 39 true (.iaddr (K1 2) (.t 41) (.t 42)),
 OG 44 39 true (.load (K1 2) (.t 43)),
 OG 45 39 true (.mov (.t 1)),
 OG 46 39 true (.callv (.t 40) [(.t 44), (.t 45)]),
 OG 47 39 true (.bin .eql (.t 46) (.c (I 0))),
 O 48 (.pick (.t 39) (.t 47) (.c (.b false))),
 O 6 (.mov (.t 35)),
 O 7 (.mov (.t 48))] [48, 47, 46, 1, 45, 44, 43, 42, 0, 41, 2, 40, 39, 38, 8, 37, 36, 9, 35]) (
 .ret)))))⟩
def F267 : PF := ⟨2, [.t 4],
 sq (.reg [
 O 2 (.box (K1 2) (.t 0)),
 O 4 (.mov (.c (I 0)))] [4, 0]) (
 sq (.reg [
 O 5 (.faddr 0 (.t 2)),
 O 6 (.load K0 (.t 5)),
 O 7 (.mov (.t 1)),
 O 8 (.call 0 268 [(.t 6), (.t 7)]),
 O 4 (.mov (.t 8))] [8, 1, 7, 6, 2, 5]) (
 .ret))⟩
def F268 : PF := ⟨2, [.t 4],
 sq (.reg [
 O 4 (.mov (.c (I 0)))] [4]) (
 sq (.reg [
 O 7 (.mov (.t 0)),
 O 8 (.call 0 344 [(.t 7)]),
 O 5 (.mov (.t 8))] [8, 7]) (
 sq (.reg [
 O 9 (.mov (.t 1)),
 O 10 (.call 0 344 [(.t 9)]),
 O 6 (.mov (.t 10))] [10, 9]) (
 sq (sq (.reg [
 O 11 (.mov (.t 5))] [5]) (
 .cond (.t 11) (sq (sq (.reg [
 O 12 (.mov (.t 6))] [6]) (
 .cond (.t 12) (sq (.reg [
 O 4 (.mov (.c (I 0)))] []) (
 .ret))
 (.skip))) (
 sq (.reg [
 O 4 (.mov (.c (I (-1))))] []) (
 .ret)))
 (.skip))) (
 sq (sq (.reg [
 O 13 (.mov (.t 6))] [6]) (
 .cond (.t 13) (sq (.reg [
 O 4 (.mov (.c (I 1)))] []) (
 .ret))
 (.skip))) (
 sq (sq (.reg [
 O 14 (.mov (.t 0)),
 O 15 (.mov (.t 1)),
 O 16 (.bin .lss (.t 14) (.t 15))] [15, 14]) (
 .cond (.t 16) (sq (.reg [
 O 4 (.mov (.c (I (-1))))] []) (
 .ret))
 (.skip))) (
 sq (sq (.reg [
 O 17 (.mov (.t 0)),
 O 18 (.mov (.t 1)),
 O 19 (.bin .gtr (.t 17) (.t 18))] [1, 18, 0, 17]) (
 .cond (.t 19) (sq (.reg [
 O 4 (.mov (.c (I 1)))] []) (
 .ret))
 (.skip))) (
 sq (.reg [
 O 4 (.mov (.c (I 0)))] []) (
 .ret))))))))⟩
def L274_0 : PC :=
 sq (.reg [
 O 11 (.bin .lss (.t 10) (.t 9))] []) (
 sq (.cond (.t 11) (.skip)
 (.exit 0)) (
 sq (.block 1 (
 sq (.reg [
 O 12 (.iaddr (K1 19) (.t 8) (.t 10)),
 O 13 (.load (K1 19) (.t 12)),
 O 7 (.alloc (K1 19) (.a [(.s []), (.s []), (.s []), (I 0), (I 0), (I 0), (I 0), (.l (K1 2) [] true), (.b false), (I 0), (I 0), (.b false), (.l (K1 2) [] true), (.b false), (I 0), (I 0), (.b false), (.l (K1 10) [] true), (.l (K1 6) [] true)])),
 E (.store (K1 19) (.t 7) (.t 13))] [13, 12]) (
 sq (.reg [
 O 14 (.faddr 0 (.t 7)),
 O 15 (.load K0 (.t 14)),
 O 16 (.mov (.t 1)),
 O 17 (.bin .eql (.t 15) (.t 16))] [16, 15, 14]) (
 .cond (.t 17) (.reg [
 O 18 (.mov (.t 5)),
 O 19 (.load (K1 19) (.t 7)),
 O 20 (.bsl (K1 19) (.a [(.s []), (.s []), (.s []), (I 0), (I 0), (I 0), (I 0), (.l (K1 2) [] true), (.b false), (I 0), (I 0), (.b false), (.l (K1 2) [] true), (.b false), (I 0), (I 0), (.b false), (.l (K1 10) [] true), (.l (K1 6) [] true)]) 1 [(0, (.t 19))]),
 O 21 (.app (K1 19) 240 (.t 18) (.t 20)),
 O 5 (.mov (.t 21))] [21, 20, 7, 19, 18])
 (.skip))))) (
 .reg [
 O 22 (.bin .add (.t 10) (.c (I 1))),
 O 10 (.mov (.t 22))] [22])))
def F274 : PF := ⟨2, [.t 4],
 sq (.reg [
 O 4 (.mov (.c (.l (K1 19) [] true)))] [4]) (
 sq (.reg [
 O 5 (.mov (.c (.l (K1 19) [] true)))] []) (
 sq (sq (.reg [
 O 8 (.mov (.t 0)),
 O 9 (.len false (.t 8)),
 O 10 (.mov (.c (I 0)))] [0]) (
 .block 0 (
 .loop [1, 5, 8, 9, 10] L274_0))) (
 sq (.reg [
 O 23 (.mov (.t 5)),
 O 4 (.mov (.t 23))] [5, 23]) (
 .ret))))⟩
def L275_0 : PC :=
 sq (.reg [
 O 7 (.bin .lss (.t 6) (.t 5))] []) (
 sq (.cond (.t 7) (.skip)
 (.exit 0)) (
 sq (.block 1 (
 sq (.reg [
 O 8 (.mov (.t 6)),
 O 3 (.mov (.t 8))] [8]) (
 sq (.reg [
 O 9 (.mov (.t 0)),
 O 10 (.mov (.t 3)),
 O 11 (.idxS (.t 9) (.t 10)),
 O 12 (.bin .lss (.t 11) (.c (.i .u8 32))),
 O 13 (.mov (.t 12)),
 OG 14 13 false (.mov (.t 0)),
 OG 15 13 false (.mov (.t 3)),
 OG 16 13 false (.idxS (.t 14) (.t 15)),
 OG 17 13 false (.bin .gtr (.t 16) (.c (.i .u8 126))),
 O 18 (.pick (.t 13) (.c (.b true)) (.t 17))] [17, 16, 15, 14, 13, 12, 11, 3, 10, 9]) (
 .cond (.t 18) (sq (.reg [
 O 2 (.mov (.c (.b false)))] []) (
 .ret))
 (.skip))))) (
 .reg [
 O 19 (.bin .add (.t 6) (.c (I 1))),
 O 6 (.mov (.t 19))] [19])))
def F275 : PF := ⟨1, [.t 2],
 sq (.reg [
 O 2 (.mov (.c (.b false)))] [2]) (
 sq (sq (.reg [
 O 4 (.mov (.t 0)),
 O 5 (.len true (.t 4)),
 O 6 (.mov (.c (I 0)))] [4]) (
 .block 0 (
 .loop [0, 5, 6] L275_0))) (
 sq (.reg [
 O 20 (.mov (.t 0)),
 O 21 (.len true (.t 20)),
 O 22 (.bin .leq (.t 21) (.c (I 64))),
 O 2 (.mov (.t 22))] [22, 21, 0, 20]) (
 .ret)))⟩
def F287 : PF := ⟨2, [.t 4, .t 5],
 sq (.reg [
 O 2 (.box (K1 3) (.t 0)),
 O 4 (.mov (.c (I 0))),
 O 5 (.mov (.c (I 0)))] [5, 4, 0]) (
 sq (.reg [
 O 6 (.mov (.t 1)),
 O 7 (.mkf 359 [(.t 2)]),
 O 8 (.call 2 358 [(.t 6), (.c (I 1)), (.t 7)]),
 O 9 (.ext (.t 8) 0),
 O 10 (.ext (.t 8) 1),
 O 4 (.mov (.t 9)),
 O 5 (.mov (.t 10))] [10, 9, 8, 2, 7, 1, 6]) (
 .ret))⟩
def F291 : PF := ⟨2, [.t 4],
 sq (.reg [
 O 4 (.mov (.c (.b false)))] [4]) (
 sq (.reg [
 O 5 (.mov (.t 0)),
 O 6 (.len true (.t 5)),
 O 7 (.mov (.t 1)),
 O 8 (.len true (.t 7)),
 O 9 (.bin .geq (.t 6) (.t 8)),
 O 10 (.mov (.t 9)),
 OG 11 10 true (.mov (.t 0)),
 OG 12 10 true (.mov (.t 1)),
 OG 13 10 true (.len true (.t 12)),
 OG 14 10 true (.slS (.t 11) none (some (.t 13))),
 OG 15 10 true (.mov (.t 1)),
 OG 16 10 true (.bin .eql (.t 14) (.t 15)),
 O 17 (.pick (.t 10) (.t 16) (.c (.b false))),
 O 4 (.mov (.t 17))] [17, 16, 15, 14, 13, 12, 11, 10, 9, 8, 1, 7, 6, 0, 5]) (
 .ret))⟩
def F304 : PF := ⟨1, [.c 2 (K1 5)],
 sq (.reg [
 O 1 (.box (K1 5) (.t 0)),
 O 2 (.alloc (K1 5) (.a [(.l (K1 2) [] true), (.b false), (I 0), (I 0), (.b false)]))] [0]) (
 sq (.reg [
 O 3 (.faddr 0 (.t 1)),
 O 4 (.load K0 (.t 3)),
 O 5 (.call 1 60 [(.t 4)]),
 O 6 (.faddr 0 (.t 1)),
 E (.store K0 (.t 6) (.t 5))] [6, 5, 4, 3]) (
 sq (.reg [
 O 7 (.load (K1 5) (.t 1)),
 E (.store (K1 5) (.t 2) (.t 7))] [1, 7]) (
 .ret)))⟩
def L305_0 : PC :=
 sq (.reg [
 O 14 (.bin .lss (.t 13) (.t 12))] []) (
 sq (.cond (.t 14) (.skip)
 (.exit 0)) (
 sq (.block 1 (
 sq (.reg [
 O 15 (.iaddr (K1 10) (.t 11) (.t 13)),
 O 16 (.load (K1 10) (.t 15)),
 O 7 (.alloc (K1 10) (.a [(.s []), (I 0), (I 0), (I 0), (.s []), (.l (K1 4) [] true), (I 0), (I 0), (.s []), (.l (K1 4) [] true)])),
 E (.store (K1 10) (.t 7) (.t 16))] [16, 15]) (
 .reg [
 O 17 (.mov (.t 5)),
 O 18 (.mov (.t 1)),
 O 19 (.load (K1 10) (.t 7)),
 O 20 (.callv (.t 18) [(.t 19)]),
 O 21 (.bsl (K1 10) (.a [(.s []), (I 0), (I 0), (I 0), (.s []), (.l (K1 4) [] true), (I 0), (I 0), (.s []), (.l (K1 4) [] true)]) 1 [(0, (.t 20))]),
 O 22 (.app (K1 10) 136 (.t 17) (.t 21)),
 O 5 (.mov (.t 22))] [22, 21, 20, 7, 19, 18, 17]))) (
 .reg [
 O 23 (.bin .add (.t 13) (.c (I 1))),
 O 13 (.mov (.t 23))] [23])))
def F305 : PF := ⟨2, [.t 4],
 sq (.reg [
 O 4 (.mov (.c (.l (K1 10) [] true)))] [4]) (
 sq (.reg [
 O 8 (.mov (.t 0)),
 O 9 (.len false (.t 8)),
 O 10 (.mksl (K1 10) 136 (.a [(.s []), (I 0), (I 0), (I 0), (.s []), (.l (K1 4) [] true), (I 0), (I 0), (.s []), (.l (K1 4) [] true)]) (.c (I 0)) (.t 9)),
 O 5 (.mov (.t 10))] [10, 9, 8]) (
 sq (sq (.reg [
 O 11 (.mov (.t 0)),
 O 12 (.len false (.t 11)),
 O 13 (.mov (.c (I 0)))] [0]) (
 .block 0 (
 .loop [1, 5, 11, 12, 13] L305_0))) (
 sq (.reg [
 O 24 (.mov (.t 5)),
 O 4 (.mov (.t 24))] [5, 24]) (
 .ret))))⟩
def L308_0 : PC :=
 sq (.reg [
 O 14 (.bin .lss (.t 13) (.t 12))] []) (
 sq (.cond (.t 14) (.skip)
 (.exit 0)) (
 sq (.block 1 (
 sq (.reg [
 O 15 (.iaddr (K1 6) (.t 11) (.t 13)),
 O 16 (.load (K1 6) (.t 15)),
 O 7 (.alloc (K1 6) (.a [(.s []), (I 0), (I 0), (I 0), (.s []), (.l (K1 4) [] true)])),
 E (.store (K1 6) (.t 7) (.t 16))] [16, 15]) (
 .reg [
 O 17 (.mov (.t 5)),
 O 18 (.mov (.t 1)),
 O 19 (.load (K1 6) (.t 7)),
 O 20 (.callv (.t 18) [(.t 19)]),
 O 21 (.bsl (K1 6) (.a [(.s []), (I 0), (I 0), (I 0), (.s []), (.l (K1 4) [] true)]) 1 [(0, (.t 20))]),
 O 22 (.app (K1 6) 80 (.t 17) (.t 21)),
 O 5 (.mov (.t 22))] [22, 21, 20, 7, 19, 18, 17]))) (
 .reg [
 O 23 (.bin .add (.t 13) (.c (I 1))),
 O 13 (.mov (.t 23))] [23])))
def F308 : PF := ⟨2, [.t 4],
 sq (.reg [
 O 4 (.mov (.c (.l (K1 6) [] true)))] [4]) (
 sq (.reg [
 O 8 (.mov (.t 0)),
 O 9 (.len false (.t 8)),
 O 10 (.mksl (K1 6) 80 (.a [(.s []), (I 0), (I 0), (I 0), (.s []), (.l (K1 4) [] true)]) (.c (I 0)) (.t 9)),
 O 5 (.mov (.t 10))] [10, 9, 8]) (
 sq (sq (.reg [
 O 11 (.mov (.t 0)),
 O 12 (.len false (.t 11)),
 O 13 (.mov (.c (I 0)))] [0]) (
 .block 0 (
 .loop [1, 5, 11, 12, 13] L308_0))) (
 sq (.reg [
 O 24 (.mov (.t 5)),
 O 4 (.mov (.t 24))] [5, 24]) (
 .ret))))⟩
def L310_0 : PC :=
 sq (.reg [
 O 14 (.bin .lss (.t 13) (.t 12))] []) (
 sq (.cond (.t 14) (.skip)
 (.exit 0)) (
 sq (.block 1 (
 sq (.reg [
 O 15 (.iaddr (K1 10) (.t 11) (.t 13)),
 O 16 (.load (K1 10) (.t 15)),
 O 7 (.alloc (K1 10) (.a [(I 0), (I 0), (I 0), (I 0), (I 0), (I 0), (.s []), (.s []), (.l (K1 3) [] true), (.i .u64 0)])),
 E (.store (K1 10) (.t 7) (.t 16))] [16, 15]) (
 .reg [
 O 17 (.mov (.t 5)),
 O 18 (.mov (.t 1)),
 O 19 (.load (K1 10) (.t 7)),
 O 20 (.callv (.t 18) [(.t 19)]),
 O 21 (.bsl (K1 10) (.a [(I 0), (I 0), (I 0), (I 0), (I 0), (I 0), (.s []), (.s []), (.l (K1 3) [] true), (.i .u64 0)]) 1 [(0, (.t 20))]),
 O 22 (.app (K1 10) 112 (.t 17) (.t 21)),
 O 5 (.mov (.t 22))] [22, 21, 20, 7, 19, 18, 17]))) (
 .reg [
 O 23 (.bin .add (.t 13) (.c (I 1))),
 O 13 (.mov (.t 23))] [23])))
def F310 : PF := ⟨2, [.t 4],
 sq (.reg [
 O 4 (.mov (.c (.l (K1 10) [] true)))] [4]) (
 sq (.reg [
 O 8 (.mov (.t 0)),
 O 9 (.len false (.t 8)),
 O 10 (.mksl (K1 10) 112 (.a [(I 0), (I 0), (I 0), (I 0), (I 0), (I 0), (.s []), (.s []), (.l (K1 3) [] true), (.i .u64 0)]) (.c (I 0)) (.t 9)),
 O 5 (.mov (.t 10))] [10, 9, 8]) (
 sq (sq (.reg [
 O 11 (.mov (.t 0)),
 O 12 (.len false (.t 11)),
 O 13 (.mov (.c (I 0)))] [0]) (
 .block 0 (
 .loop [1, 5, 11, 12, 13] L310_0))) (
 sq (.reg [
 O 24 (.mov (.t 5)),
 O 4 (.mov (.t 24))] [5, 24]) (
 .ret))))⟩
def L318_0 : PC :=
 sq (.reg [
 O 11 (.bin .lss (.t 10) (.t 9))] []) (
 sq (.cond (.t 11) (.skip)
 (.exit 0)) (
 sq (.block 1 (
 sq (.reg [
 O 12 (.iaddr (K1 4) (.t 8) (.t 10)),
 O 13 (.load (K1 4) (.t 12)),
 O 7 (.alloc (K1 4) (.a [(I 0), (I 0), (I 0), (.s [])])),
 E (.store (K1 4) (.t 7) (.t 13))] [13, 12]) (
 sq (.reg [
 O 14 (.faddr 0 (.t 7)),
 O 15 (.load K0 (.t 14)),
 O 16 (.mov (.t 1)),
 O 17 (.bin .eql (.t 15) (.t 16))] [16, 15, 14]) (
 .cond (.t 17) (sq (.reg [
 O 18 (.load (K1 4) (.t 7)),
 E (.store (K1 4) (.t 4) (.t 18)),
 O 5 (.mov (.c (.b true)))] [7, 18]) (
 .ret))
 (.skip))))) (
 .reg [
 O 19 (.bin .add (.t 10) (.c (I 1))),
 O 10 (.mov (.t 19))] [19])))
def F318 : PF := ⟨2, [.c 4 (K1 4), .t 5],
 sq (.reg [
 O 4 (.alloc (K1 4) (.a [(I 0), (I 0), (I 0), (.s [])])),
 O 5 (.mov (.c (.b false)))] [5]) (
 sq (sq (.reg [
 O 8 (.mov (.t 0)),
 O 9 (.len false (.t 8)),
 O 10 (.mov (.c (I 0)))] [0]) (
 .block 0 (
 .loop [1, 4, 8, 9, 10] L318_0))) (
 sq (.reg [
 O 20 (.agg [(I 0), (I 0), (I 0), (.s [])] []),
 E (.store (K1 4) (.t 4) (.t 20)),
 O 5 (.mov (.c (.b false)))] [20]) (
 .ret)))⟩
def F326 : PF := ⟨2, [.t 4],
 sq (.reg [
 O 4 (.mov (.c (.i .u64 0)))] [4]) (
 sq (.reg [
 O 5 (.mov (.t 0)),
 O 6 (.call 0 375 [(.c (.i .u64 14695981039346656037)), (.t 5)]),
 O 7 (.mov (.t 1)),
 O 8 (.call 0 374 [(.t 6), (.t 7)]),
 O 4 (.mov (.t 8))] [8, 1, 7, 6, 0, 5]) (
 .ret))⟩
def L327_0 : PC :=
 sq (.reg [
 O 13 (.bin .lss (.t 12) (.t 11))] []) (
 sq (.cond (.t 13) (.skip)
 (.exit 0)) (
 sq (.block 1 (
 sq (.reg [
 O 14 (.iaddr (K1 3) (.t 10) (.t 12)),
 O 15 (.load (K1 3) (.t 14)),
 O 6 (.alloc (K1 3) (.a [(I 0), (I 0), (.s [])])),
 E (.store (K1 3) (.t 6) (.t 15))] [15, 14]) (
 .regD [
 O 16 (.mov (.t 3)),
 O 17 (.faddr 0 (.t 6)),
 O 18 (.load K0 (.t 17)),
 O 19 (.call 0 363 [(.t 18)]),
 O 20 (.faddr 1 (.t 6)),
 O 21 (.load K0 (.t 20)),
 O 22 (.call 0 363 [(.t 21)]),
 O 23 (.faddr 2 (.t 6)),
 O 24 (.load K0 (.t 23)),
 O 25 (.bsl K0 (.s []) 3 [(0, (.t 19)), (1, (.t 22)), (2, (.t 24))]),
 O 26 (.call 0 362 [(.t 25)]),
 O 27 (.bsl K0 (.s []) 1 [(0, (.t 26))]),
 O 28 (.app K0 16 (.t 16) (.t 27)),
 O 3 (.mov (.t 28))] [0, 0, 2, 6, 0, 16, 62, 0, 128, 510, 1022, 2046, 4095, 8191] [28, 27, 26, 25, 24, 23, 22, 21, 20, 19, 18, 6, 17, 16]))) (
 .reg [
 O 29 (.bin .add (.t 12) (.c (I 1))),
 O 12 (.mov (.t 29))] [29])))
def L327_1 : PC :=
 sq (.reg [
 O 44 (.bin .lss (.t 43) (.c (I 6)))] []) (
 sq (.cond (.t 44) (.skip)
 (.exit 2)) (
 sq (.block 3 (
 sq (.reg [
 O 45 (.idxA 6 K0 (.t 42) (.t 43)),
 O 8 (.mov (.t 45))] [45]) (
 .reg [
 O 46 (.mov (.t 4)),
 O 47 (.mov (.t 8)),
 O 48 (.call 0 363 [(.t 47)]),
 O 49 (.bsl K0 (.s []) 1 [(0, (.t 48))]),
 O 50 (.app K0 16 (.t 46) (.t 49)),
 O 4 (.mov (.t 50))] [50, 49, 48, 8, 47, 46]))) (
 .reg [
 O 51 (.bin .add (.t 43) (.c (I 1))),
 O 43 (.mov (.t 51))] [51])))
def F327 : PF := ⟨1, [.t 2],
 sq (.reg [
 O 1 (.box (K1 10) (.t 0)),
 O 2 (.mov (.c (.s [])))] [2, 0]) (
 sq (.reg [
 O 3 (.mov (.c (.l K0 [] true))),
 O 4 (.mov (.c (.l K0 [] true)))] []) (
 sq (sq (.reg [
 O 9 (.faddr 8 (.t 1)),
 O 10 (.load K0 (.t 9)),
 O 11 (.len false (.t 10)),
 O 12 (.mov (.c (I 0)))] [9]) (
 .block 0 (
 .loop [1, 3, 4, 10, 11, 12] L327_0))) (
 sq (sq (.reg [
 O 30 (.faddr 0 (.t 1)),
 O 31 (.load K0 (.t 30)),
 O 32 (.faddr 1 (.t 1)),
 O 33 (.load K0 (.t 32)),
 O 34 (.faddr 2 (.t 1)),
 O 35 (.load K0 (.t 34)),
 O 36 (.faddr 3 (.t 1)),
 O 37 (.load K0 (.t 36)),
 O 38 (.faddr 4 (.t 1)),
 O 39 (.load K0 (.t 38)),
 O 40 (.faddr 5 (.t 1)),
 O 41 (.load K0 (.t 40)),
 O 42 (.agg [(I 0), (I 0), (I 0), (I 0), (I 0), (I 0)] [(0, K0, (.t 31)), (1, K0, (.t 33)), (2, K0, (.t 35)), (3, K0, (.t 37)), (4, K0, (.t 39)), (5, K0, (.t 41))]),
 O 43 (.mov (.c (I 0)))] [41, 40, 39, 38, 37, 36, 35, 34, 33, 32, 31, 30]) (
 .block 2 (
 .loop [1, 3, 4, 42, 43] L327_1))) (
 sq (.regD [
 O 52 (.mov (.t 4)),
 O 53 (.faddr 6 (.t 1)),
 O 54 (.load K0 (.t 53)),
 O 55 (.faddr 7 (.t 1)),
 O 56 (.load K0 (.t 55)),
 O 57 (.mov (.t 3)),
 O 58 (.call 0 362 [(.t 57)]),
 O 59 (.bsl K0 (.s []) 3 [(0, (.t 54)), (1, (.t 56)), (2, (.t 58))]),
 O 60 (.app K0 16 (.t 52) (.t 59)),
 O 61 (.call 0 362 [(.t 60)]),
 O 2 (.mov (.t 61))] [0, 0, 2, 0, 8, 0, 32, 126, 255, 511, 1023] [61, 60, 59, 58, 3, 57, 56, 55, 54, 1, 53, 4, 52]) (
 .ret)))))⟩
def F328 : PF := ⟨2, [.t 4],
 sq (.reg [
 O 4 (.mov (.c (.b false)))] [4]) (
 sq (.reg [
 O 5 (.mov (.t 0)),
 O 6 (.mov (.t 1)),
 O 7 (.call 2 376 [(.t 5), (.t 6)]),
 O 8 (.bin .geq (.t 7) (.c (I 0))),
 O 4 (.mov (.t 8))] [8, 7, 1, 6, 0, 5]) (
 .ret))⟩
def F329 : PF := ⟨2, [.t 3],
 sq (.reg [
 O 2 (.box (K1 4) (.t 0)),
 O 3 (.mov (.c (.b false)))] [3, 0]) (
 sq (.reg [
 O 4 (.faddr 1 (.t 2)),
 O 5 (.load K0 (.t 4)),
 O 6 (.faddr 0 (.t 1)),
 O 7 (.load K0 (.t 6)),
 O 8 (.bin .eql (.t 5) (.t 7)),
 O 3 (.mov (.t 8))] [8, 7, 1, 6, 5, 2, 4]) (
 .ret))⟩
def L330_0 : PC :=
 sq (.reg [
 O 11 (.bin .lss (.t 10) (.t 9))] []) (
 sq (.cond (.t 11) (.skip)
 (.exit 0)) (
 sq (.block 1 (
 sq (.reg [
 O 12 (.iaddr (K1 2) (.t 8) (.t 10)),
 O 13 (.load (K1 2) (.t 12)),
 O 7 (.alloc (K1 2) (.a [(.s []), (I 0)])),
 E (.store (K1 2) (.t 7) (.t 13))] [13, 12]) (
 sq (.reg [
 O 14 (.faddr 0 (.t 7)),
 O 15 (.load K0 (.t 14)),
 O 16 (.mov (.t 1)),
 O 17 (.bin .eql (.t 15) (.t 16))] [16, 15, 14]) (
 .cond (.t 17) (sq (.reg [
 O 18 (.load (K1 2) (.t 7)),
 E (.store (K1 2) (.t 4) (.t 18)),
 O 5 (.mov (.c (.b true)))] [7, 18]) (
 .ret))
 (.skip))))) (
 .reg [
 O 19 (.bin .add (.t 10) (.c (I 1))),
 O 10 (.mov (.t 19))] [19])))
def F330 : PF := ⟨2, [.c 4 (K1 2), .t 5],
 sq (.reg [
 O 4 (.alloc (K1 2) (.a [(.s []), (I 0)])),
 O 5 (.mov (.c (.b false)))] [5]) (
 sq (sq (.reg [
 O 8 (.mov (.t 0)),
 O 9 (.len false (.t 8)),
 O 10 (.mov (.c (I 0)))] [0]) (
 .block 0 (
 .loop [1, 4, 8, 9, 10] L330_0))) (
 sq (.reg [
 O 20 (.agg [(.s []), (I 0)] []),
 E (.store (K1 2) (.t 4) (.t 20)),
 O 5 (.mov (.c (.b false)))] [20]) (
 .ret)))⟩
def F331 : PF := ⟨2, [.t 4, .t 5],
 sq (.reg [
 O 2 (.box (K1 22) (.t 0)),
 O 3 (.box (K1 7) (.t 1)),
 O 4 (.mov (.c (.s []))),
 O 5 (.mov (.c (.b false)))] [5, 4, 1, 0]) (
 sq (.reg [
 O 9 (.faddr 17 (.t 2)),
 O 10 (.load K0 (.t 9)),
 O 11 (.faddr 5 (.t 3)),
 O 12 (.load K0 (.t 11)),
 O 13 (.faddr 1 (.t 3)),
 O 14 (.load K0 (.t 13)),
 O 15 (.call 0 30 [(.t 10), (.t 12), (.t 14)]),
 O 8 (.mov (.t 15)),
 O 16 (.ext (.t 8) 0),
 O 17 (.ext (.t 8) 1),
 O 6 (.alloc (K1 19) (.a [(.s []), (.s []), (.s []), (I 0), (I 0), (I 0), (I 0), (.l (K1 2) [] true), (.b false), (I 0), (I 0), (.b false), (.l (K1 2) [] true), (.b false), (I 0), (I 0), (.b false), (.l (K1 10) [] true), (.l (K1 6) [] true)])),
 E (.store (K1 19) (.t 6) (.t 16)),
 O 7 (.mov (.t 17))] [17, 16, 8, 15, 14, 13, 12, 3, 11, 10, 2, 9]) (
 sq (.reg [
 O 18 (.faddr 1 (.t 6)),
 O 19 (.load K0 (.t 18)),
 O 20 (.mov (.t 7)),
 O 4 (.mov (.t 19)),
 O 5 (.mov (.t 20))] [7, 20, 19, 6, 18]) (
 .ret)))⟩
def L335_0 : PC :=
 sq (.reg [
 O 9 (.bin .lss (.t 8) (.t 7))] []) (
 sq (.cond (.t 9) (.skip)
 (.exit 0)) (
 sq (.block 1 (
 sq (.reg [
 O 10 (.mov (.t 8)),
 O 5 (.mov (.t 10))] [10]) (
 sq (.reg [
 O 11 (.mov (.t 1)),
 O 12 (.mov (.t 0)),
 O 13 (.mov (.t 5)),
 O 14 (.iaddr K0 (.t 12) (.t 13)),
 O 15 (.load K0 (.t 14)),
 O 16 (.bin .eql (.t 11) (.t 15))] [15, 14, 13, 12, 11]) (
 .cond (.t 16) (sq (.reg [
 O 17 (.mov (.t 5)),
 O 4 (.mov (.t 17))] [5, 17]) (
 .ret))
 (.skip))))) (
 .reg [
 O 18 (.bin .add (.t 8) (.c (I 1))),
 O 8 (.mov (.t 18))] [18])))
def F335 : PF := ⟨2, [.t 4],
 sq (.reg [
 O 4 (.mov (.c (I 0)))] [4]) (
 sq (sq (.reg [
 O 6 (.mov (.t 0)),
 O 7 (.len false (.t 6)),
 O 8 (.mov (.c (I 0)))] [6]) (
 .block 0 (
 .loop [0, 1, 7, 8] L335_0))) (
 sq (.reg [
 O 4 (.mov (.c (I (-1))))] []) (
 .ret)))⟩
def L336_0 : PC :=
 sq (.reg [
 O 14 (.bin .lss (.t 13) (.t 12))] []) (
 sq (.cond (.t 14) (.skip)
 (.exit 2)) (
 sq (.block 3 (
 sq (.reg [
 O 15 (.mov (.t 13)),
 O 5 (.mov (.t 15))] [15]) (
 .reg [
 O 16 (.mov (.t 3)),
 O 17 (.mov (.t 4)),
 O 18 (.bin .add (.c (I 1)) (.t 17)),
 O 19 (.mov (.t 5)),
 O 20 (.agg [(I 0), (I 0)] [(0, K0, (.t 18)), (1, K0, (.t 19))]),
 O 21 (.bsl (K1 2) (.a [(I 0), (I 0)]) 1 [(0, (.t 20))]),
 O 22 (.app (K1 2) 16 (.t 16) (.t 21)),
 O 3 (.mov (.t 22))] [22, 21, 20, 5, 19, 18, 17, 16]))) (
 .reg [
 O 23 (.bin .add (.t 13) (.c (I 1))),
 O 13 (.mov (.t 23))] [23])))
def L336_1 : PC :=
 sq (.reg [
 O 10 (.bin .lss (.t 9) (.c (I 8)))] []) (
 sq (.cond (.t 10) (.skip)
 (.exit 0)) (
 sq (.block 1 (
 sq (.reg [
 O 11 (.mov (.t 9)),
 O 4 (.mov (.t 11))] [11]) (
 sq (.reg [
 O 12 (.mov (.t 0)),
 O 13 (.mov (.c (I 0)))] []) (
 .block 2 (
 .loop [0, 3, 4, 9, 12, 13] L336_0))))) (
 .reg [
 O 24 (.bin .add (.t 9) (.c (I 1))),
 O 9 (.mov (.t 24))] [24])))
def F336 : PF := ⟨1, [.t 2],
 sq (.reg [
 O 2 (.mov (.c (.l (K1 2) [] true)))] [2]) (
 sq (sq (.reg [
 O 6 (.mov (.t 0)),
 O 7 (.call 0 377 [(.t 6)]),
 O 8 (.un .not (.t 7))] [7, 6]) (
 .cond (.t 8) (sq (.reg [
 O 2 (.mov (.c (.l (K1 2) [] true)))] []) (
 .ret))
 (.skip))) (
 sq (.reg [
 O 3 (.mov (.c (.l (K1 2) [] true)))] []) (
 sq (sq (.reg [
 O 9 (.mov (.c (I 0)))] []) (
 .block 0 (
 .loop [0, 3, 9] L336_1))) (
 sq (.reg [
 O 25 (.mov (.t 3)),
 O 26 (.agg [(I 0), (I 0)] [(0, K0, (.c (I 9)))]),
 O 27 (.bsl (K1 2) (.a [(I 0), (I 0)]) 1 [(0, (.t 26))]),
 O 28 (.app (K1 2) 16 (.t 25) (.t 27)),
 O 2 (.mov (.t 28))] [28, 27, 26, 3, 25]) (
 .ret)))))⟩
def L341_0 : PC :=
 sq (.reg [
 O 9 (.bin .lss (.t 8) (.t 7))] []) (
 sq (.cond (.t 9) (.skip)
 (.exit 0)) (
 sq (.block 1 (
 sq (.reg [
 O 10 (.iaddr K0 (.t 6) (.t 8)),
 O 11 (.load K0 (.t 10)),
 O 5 (.mov (.t 11))] [11, 10]) (
 sq (.reg [
 O 12 (.mov (.t 5)),
 O 13 (.mov (.t 3)),
 O 14 (.bin .neq (.t 12) (.t 13))] [13, 12]) (
 .cond (.t 14) (sq (.reg [
 O 15 (.mov (.t 5)),
 O 2 (.mov (.t 15))] [5, 15]) (
 .ret))
 (.skip))))) (
 .reg [
 O 16 (.bin .add (.t 8) (.c (I 1))),
 O 8 (.mov (.t 16))] [16])))
def F341 : PF := ⟨1, [.t 2],
 sq (.reg [
 O 2 (.mov (.c (I 0)))] [2]) (
 sq (.reg [
 O 3 (.mov (.c (I 0)))] []) (
 sq (sq (.reg [
 O 6 (.mov (.t 0)),
 O 7 (.len false (.t 6)),
 O 8 (.mov (.c (I 0)))] [0]) (
 .block 0 (
 .loop [3, 6, 7, 8] L341_0))) (
 sq (.reg [
 O 17 (.mov (.t 3)),
 O 2 (.mov (.t 17))] [3, 17]) (
 .ret))))⟩
def F342 : PF := ⟨2, [.t 4],
 sq (.reg [
 O 4 (.mov (.c (I 0)))] [4]) (
 sq (.reg [
 O 7 (.mov (.t 0)),
 O 8 (.call 0 382 [(.t 7)]),
 O 5 (.mov (.t 8))] [8, 7]) (
 sq (.reg [
 O 9 (.mov (.t 1)),
 O 10 (.call 0 382 [(.t 9)]),
 O 6 (.mov (.t 10))] [10, 9]) (
 sq (sq (.reg [
 O 11 (.mov (.t 5))] [5]) (
 .cond (.t 11) (sq (sq (.reg [
 O 12 (.mov (.t 6))] [6]) (
 .cond (.t 12) (sq (.reg [
 O 4 (.mov (.c (I 0)))] []) (
 .ret))
 (.skip))) (
 sq (.reg [
 O 4 (.mov (.c (I (-1))))] []) (
 .ret)))
 (.skip))) (
 sq (sq (.reg [
 O 13 (.mov (.t 6))] [6]) (
 .cond (.t 13) (sq (.reg [
 O 4 (.mov (.c (I 1)))] []) (
 .ret))
 (.skip))) (
 sq (sq (.reg [
 O 14 (.mov (.t 0)),
 O 15 (.mov (.t 1)),
 O 16 (.bin .lss (.t 14) (.t 15))] [15, 14]) (
 .cond (.t 16) (sq (.reg [
 O 4 (.mov (.c (I (-1))))] []) (
 .ret))
 (.skip))) (
 sq (sq (.reg [
 O 17 (.mov (.t 0)),
 O 18 (.mov (.t 1)),
 O 19 (.bin .gtr (.t 17) (.t 18))] [1, 18, 0, 17]) (
 .cond (.t 19) (sq (.reg [
 O 4 (.mov (.c (I 1)))] []) (
 .ret))
 (.skip))) (
 sq (.reg [
 O 4 (.mov (.c (I 0)))] []) (
 .ret))))))))⟩
def F344 : PF := ⟨1, [.t 2],
 sq (.reg [
 O 2 (.mov (.c (.b false)))] [2]) (
 sq (.reg [
 O 3 (.mov (.t 0)),
 O 4 (.mov (.t 0)),
 O 5 (.bin .neq (.t 3) (.t 4)),
 O 2 (.mov (.t 5))] [5, 4, 0, 3]) (
 .ret))⟩
def L358_0 : PC :=
 sq (sq (.reg [
 O 11 (.mov (.t 0)),
 O 12 (.call 0 22 [(.t 11)])] [11]) (
 .cond (.t 12) (.skip)
 (.exit 0))) (
 sq (.block 1 (
 sq (.reg [
 O 16 (.mov (.t 2)),
 O 17 (.mov (.t 0)),
 O 18 (.callv (.t 16) [(.t 17)])] [17, 16]) (
 .cond (.t 18) (sq (.reg [
 O 19 (.mov (.t 0)),
 O 6 (.mov (.t 19)),
 O 7 (.mov (.c (I 0)))] [0, 19]) (
 .ret))
 (.skip)))) (
 .reg [
 O 13 (.mov (.t 0)),
 O 14 (.mov (.t 1)),
 O 15 (.bin .add (.t 13) (.t 14)),
 O 0 (.mov (.t 15))] [15, 14, 13]))
def F358 : PF := ⟨3, [.t 6, .t 7],
 sq (.reg [
 O 6 (.mov (.c (I 0))),
 O 7 (.mov (.c (I 0)))] [7, 6]) (
 sq (sq (.reg [
 O 8 (.mov (.t 0)),
 O 9 (.call 0 22 [(.t 8)]),
 O 10 (.un .not (.t 9))] [9, 8]) (
 .cond (.t 10) (sq (.reg [
 O 6 (.mov (.c (I 0))),
 O 7 (.mov (.c (I 1)))] []) (
 .ret))
 (.skip))) (
 sq (.block 0 (
 .loop [0, 1, 2] L358_0)) (
 sq (.reg [
 O 6 (.mov (.c (I 0))),
 O 7 (.mov (.c (I 11)))] []) (
 .ret))))⟩
def F359 : PF := ⟨2, [.t 3],
 sq (.reg [
 O 3 (.mov (.c (.b false)))] [3]) (
 sq (.reg [
 O 4 (.load (K1 3) (.t 1)),
 O 5 (.mov (.t 0)),
 O 6 (.call 0 173 [(.t 4), (.t 5)]),
 O 3 (.mov (.t 6))] [6, 0, 5, 1, 4]) (
 .ret))⟩
def L362_0 : PC :=
 sq (.reg [
 O 9 (.bin .lss (.t 8) (.t 7))] []) (
 sq (.cond (.t 9) (.skip)
 (.exit 0)) (
 sq (.block 1 (
 sq (.reg [
 O 10 (.iaddr K0 (.t 6) (.t 8)),
 O 11 (.load K0 (.t 10)),
 O 5 (.mov (.t 11))] [11, 10]) (
 sq (.reg [
 O 12 (.mov (.t 3)),
 O 13 (.mov (.t 5)),
 O 14 (.len true (.t 13)),
 O 15 (.call 2 386 [(.t 12), (.t 14), (.c (I 10))]),
 O 3 (.mov (.t 15))] [15, 14, 13, 12]) (
 sq (.reg [
 O 16 (.mov (.t 3)),
 O 17 (.bsl K0 (.i .u8 0) 1 [(0, (.c (.i .u8 58)))]),
 O 18 (.app K0 1 (.t 16) (.t 17)),
 O 3 (.mov (.t 18))] [18, 17, 16]) (
 .reg [
 O 19 (.mov (.t 3)),
 O 20 (.mov (.t 5)),
 O 21 (.app K0 1 (.t 19) (.t 20)),
 O 3 (.mov (.t 21))] [21, 5, 20, 19]))))) (
 .reg [
 O 22 (.bin .add (.t 8) (.c (I 1))),
 O 8 (.mov (.t 22))] [22])))
def F362 : PF := ⟨1, [.t 2],
 sq (.reg [
 O 2 (.mov (.c (.s [])))] [2]) (
 sq (.reg [
 O 3 (.mov (.c (.l K0 [] true)))] []) (
 sq (sq (.reg [
 O 6 (.mov (.t 0)),
 O 7 (.len false (.t 6)),
 O 8 (.mov (.c (I 0)))] [0]) (
 .block 0 (
 .loop [3, 6, 7, 8] L362_0))) (
 sq (.reg [
 O 23 (.mov (.t 3)),
 O 24 (.sb (.t 23)),
 O 2 (.mov (.t 24))] [24, 3, 23]) (
 .ret))))⟩
def F363 : PF := ⟨1, [.t 2],
 sq (.reg [
 O 2 (.mov (.c (.s [])))] [2]) (
 sq (.reg [
 O 3 (.mov (.t 0)),
 O 4 (.call 0 109 [(.t 3)]),
 O 2 (.mov (.t 4))] [4, 0, 3]) (
 .ret))⟩
def L374_0 : PC :=
 sq (.reg [
 O 9 (.bin .lss (.t 8) (.t 7))] []) (
 sq (.cond (.t 9) (.skip)
 (.exit 0)) (
 sq (.block 1 (
 sq (.reg [
 O 10 (.mov (.t 8)),
 O 5 (.mov (.t 10))] [10]) (
 .reg [
 O 11 (.mov (.t 0)),
 O 12 (.mov (.t 1)),
 O 13 (.mov (.t 5)),
 O 14 (.idxS (.t 12) (.t 13)),
 O 15 (.conv .u64 (.t 14)),
 O 16 (.bin .xor (.t 11) (.t 15)),
 O 17 (.bin .mul (.t 16) (.c (.i .u64 1099511628211))),
 O 0 (.mov (.t 17))] [17, 16, 15, 14, 5, 13, 12, 11]))) (
 .reg [
 O 18 (.bin .add (.t 8) (.c (I 1))),
 O 8 (.mov (.t 18))] [18])))
def F374 : PF := ⟨2, [.t 4],
 sq (.reg [
 O 4 (.mov (.c (.i .u64 0)))] [4]) (
 sq (sq (.reg [
 O 6 (.mov (.t 1)),
 O 7 (.len true (.t 6)),
 O 8 (.mov (.c (I 0)))] [6]) (
 .block 0 (
 .loop [0, 1, 7, 8] L374_0))) (
 sq (.reg [
 O 19 (.mov (.t 0)),
 O 4 (.mov (.t 19))] [0, 19]) (
 .ret)))⟩
def L375_0 : PC :=
 sq (.reg [
 O 7 (.bin .lss (.t 6) (.c (I 8)))] []) (
 sq (.cond (.t 7) (.skip)
 (.exit 0)) (
 sq (.block 1 (
 sq (.reg [
 O 8 (.mov (.t 6)),
 O 5 (.mov (.t 8))] [8]) (
 .reg [
 O 9 (.mov (.t 0)),
 O 10 (.mov (.t 1)),
 O 11 (.mov (.t 5)),
 O 12 (.bin .mul (.c (I 8)) (.t 11)),
 O 13 (.bin .shr (.t 10) (.t 12)),
 O 14 (.bin .and (.t 13) (.c (.i .u64 255))),
 O 15 (.bin .xor (.t 9) (.t 14)),
 O 16 (.bin .mul (.t 15) (.c (.i .u64 1099511628211))),
 O 0 (.mov (.t 16))] [16, 15, 14, 13, 12, 5, 11, 10, 9]))) (
 .reg [
 O 17 (.bin .add (.t 6) (.c (I 1))),
 O 6 (.mov (.t 17))] [17])))
def F375 : PF := ⟨2, [.t 4],
 sq (.reg [
 O 4 (.mov (.c (.i .u64 0)))] [4]) (
 sq (sq (.reg [
 O 6 (.mov (.c (I 0)))] []) (
 .block 0 (
 .loop [0, 1, 6] L375_0))) (
 sq (.reg [
 O 18 (.mov (.t 0)),
 O 4 (.mov (.t 18))] [0, 18]) (
 .ret)))⟩
def L376_0 : PC :=
 sq (.reg [
 O 9 (.bin .lss (.t 8) (.t 7))] []) (
 sq (.cond (.t 9) (.skip)
 (.exit 0)) (
 sq (.block 1 (
 sq (.reg [
 O 10 (.mov (.t 8)),
 O 5 (.mov (.t 10))] [10]) (
 sq (.reg [
 O 11 (.mov (.t 1)),
 O 12 (.mov (.t 0)),
 O 13 (.mov (.t 5)),
 O 14 (.iaddr (K1 4) (.t 12) (.t 13)),
 O 15 (.load (K1 4) (.t 14)),
 O 16 (.callv (.t 11) [(.t 15)])] [15, 14, 13, 12, 11]) (
 .cond (.t 16) (sq (.reg [
 O 17 (.mov (.t 5)),
 O 4 (.mov (.t 17))] [5, 17]) (
 .ret))
 (.skip))))) (
 .reg [
 O 18 (.bin .add (.t 8) (.c (I 1))),
 O 8 (.mov (.t 18))] [18])))
def F376 : PF := ⟨2, [.t 4],
 sq (.reg [
 O 4 (.mov (.c (I 0)))] [4]) (
 sq (sq (.reg [
 O 6 (.mov (.t 0)),
 O 7 (.len false (.t 6)),
 O 8 (.mov (.c (I 0)))] [6]) (
 .block 0 (
 .loop [0, 1, 7, 8] L376_0))) (
 sq (.reg [
 O 4 (.mov (.c (I (-1))))] []) (
 .ret)))⟩
def F377 : PF := ⟨1, [.t 2],
 sq (.reg [
 O 2 (.mov (.c (.b false)))] [2]) (
 sq (.reg [
 O 3 (.mov (.t 0)),
 O 4 (.bin .geq (.t 3) (.c (I 1))),
 O 5 (.mov (.t 4)),
 OG 6 5 true (.mov (.t 0)),
 OG 7 5 true (.bin .leq (.t 6) (.c (I 8))),
 O 8 (.pick (.t 5) (.t 7) (.c (.b false))),
 O 2 (.mov (.t 8))] [8, 7, 6, 5, 4, 0, 3]) (
 .ret))⟩
def F382 : PF := ⟨1, [.t 2],
 sq (.reg [
 O 2 (.mov (.c (.b false)))] [2]) (
 sq (.reg [
 O 3 (.mov (.t 0)),
 O 4 (.mov (.t 0)),
 O 5 (.bin .neq (.t 3) (.t 4)),
 O 2 (.mov (.t 5))] [5, 4, 0, 3]) (
 .ret))⟩
def L480_0 : PC :=
 sq (sq (.reg [
 O 38 (.mov (.t 14)),
 O 39 (.faddr 18 (.t 6)),
 O 40 (.load K0 (.t 39)),
 O 41 (.len false (.t 40)),
 O 42 (.bin .lss (.t 38) (.t 41))] [41, 40, 39, 38]) (
 .cond (.t 42) (.skip)
 (.exit 0))) (
 sq (.block 1 (
 .reg [
 O 45 (.mov (.t 13)),
 O 46 (.faddr 18 (.t 6)),
 O 47 (.load K0 (.t 46)),
 O 48 (.mov (.t 14)),
 O 49 (.iaddr (K1 7) (.t 47) (.t 48)),
 O 50 (.faddr 0 (.t 49)),
 O 51 (.load K0 (.t 50)),
 O 52 (.minmax true [(.t 45), (.t 51)]),
 O 13 (.mov (.t 52))] [52, 51, 50, 49, 48, 47, 46, 45])) (
 .reg [
 O 43 (.mov (.t 14)),
 O 44 (.bin .add (.t 43) (.c (I 1))),
 O 14 (.mov (.t 44))] [44, 43]))
def L480_1 : PC :=
 sq (sq (.reg [
 O 53 (.mov (.t 15)),
 O 54 (.faddr 20 (.t 6)),
 O 55 (.load K0 (.t 54)),
 O 56 (.len false (.t 55)),
 O 57 (.bin .lss (.t 53) (.t 56))] [56, 55, 54, 53]) (
 .cond (.t 57) (.skip)
 (.exit 2))) (
 sq (.block 3 (
 .reg [
 O 60 (.mov (.t 13)),
 O 61 (.faddr 20 (.t 6)),
 O 62 (.load K0 (.t 61)),
 O 63 (.mov (.t 15)),
 O 64 (.iaddr (K1 6) (.t 62) (.t 63)),
 O 65 (.faddr 0 (.t 64)),
 O 66 (.load K0 (.t 65)),
 O 67 (.minmax true [(.t 60), (.t 66)]),
 O 13 (.mov (.t 67))] [67, 66, 65, 64, 63, 62, 61, 60])) (
 .reg [
 O 58 (.mov (.t 15)),
 O 59 (.bin .add (.t 58) (.c (I 1))),
 O 15 (.mov (.t 59))] [59, 58]))
def L480_2 : PC :=
 sq (sq (.reg [
 O 68 (.mov (.t 16)),
 O 69 (.faddr 21 (.t 6)),
 O 70 (.load K0 (.t 69)),
 O 71 (.len false (.t 70)),
 O 72 (.bin .lss (.t 68) (.t 71))] [71, 70, 69, 68]) (
 .cond (.t 72) (.skip)
 (.exit 4))) (
 sq (.block 5 (
 .reg [
 O 75 (.mov (.t 13)),
 O 76 (.faddr 21 (.t 6)),
 O 77 (.load K0 (.t 76)),
 O 78 (.mov (.t 16)),
 O 79 (.iaddr (K1 7) (.t 77) (.t 78)),
 O 80 (.faddr 0 (.t 79)),
 O 81 (.load K0 (.t 80)),
 O 82 (.minmax true [(.t 75), (.t 81)]),
 O 13 (.mov (.t 82))] [82, 81, 80, 79, 78, 77, 76, 75])) (
 .reg [
 O 73 (.mov (.t 16)),
 O 74 (.bin .add (.t 73) (.c (I 1))),
 O 16 (.mov (.t 74))] [74, 73]))
def F480 : PF := ⟨4, [.c 8 (K1 42), .t 9],
 sq (.reg [
 O 6 (.box (K1 22) (.t 2)),
 O 8 (.alloc (K1 42) (.a [(I 0), (I 0), (.s []), (.l (K1 2) [] true), (.l (K1 3) [] true), (.l (K1 4) [] true), (I 0), (I 0), (I 0), (I 0), (I 0), (I 0), (I 0), (I 0), (I 0), (I 0), (I 0), (I 0), (I 0), (I 0), (.l (K1 19) [] true), (.l (K1 7) [] true), (.l (K1 10) [] true), (.l (K1 6) [] true), (.l (K1 7) [] true), (.l (K1 11) [] true), (.l (K1 25) [] true), (.l (K1 10) [] true), (.l (K1 7) [] true), (.l (K1 9) [] true), (.l (K1 7) [] true), (.l (K1 7) [] true), (.l (K1 3) [] true), (.l (K1 35) [] true), (.l (K1 5) [] true), (.b false), (I 0), (I 0), (I 0), (I 0), (.l (K1 3) [] true), (.l (K1 3) [] true)])),
 O 9 (.mov (.c (I 0)))] [9, 2]) (
 sq (sq (.reg [
 O 17 (.load (K1 22) (.t 6)),
 O 18 (.call 0 488 [(.t 17)]),
 O 10 (.mov (.t 18))] [18, 17]) (
 sq (.reg [
 O 19 (.mov (.t 10)),
 O 20 (.bin .neq (.t 19) (.c (I 0)))] [19]) (
 .cond (.t 20) (sq (.reg [
 O 21 (.agg [(I 0), (I 0), (.s []), (.l (K1 2) [] true), (.l (K1 3) [] true), (.l (K1 4) [] true), (I 0), (I 0), (I 0), (I 0), (I 0), (I 0), (I 0), (I 0), (I 0), (I 0), (I 0), (I 0), (I 0), (I 0), (.l (K1 19) [] true), (.l (K1 7) [] true), (.l (K1 10) [] true), (.l (K1 6) [] true), (.l (K1 7) [] true), (.l (K1 11) [] true), (.l (K1 25) [] true), (.l (K1 10) [] true), (.l (K1 7) [] true), (.l (K1 9) [] true), (.l (K1 7) [] true), (.l (K1 7) [] true), (.l (K1 3) [] true), (.l (K1 35) [] true), (.l (K1 5) [] true), (.b false), (I 0), (I 0), (I 0), (I 0), (.l (K1 3) [] true), (.l (K1 3) [] true)] []),
 O 22 (.mov (.t 10)),
 E (.store (K1 42) (.t 8) (.t 21)),
 O 9 (.mov (.t 22))] [10, 22, 21]) (
 .ret))
 (.skip)))) (
 sq (sq (.reg [
 O 23 (.mov (.t 3)),
 O 24 (.call 0 489 [(.t 23)]),
 O 11 (.mov (.t 24))] [24, 23]) (
 sq (.reg [
 O 25 (.mov (.t 11)),
 O 26 (.bin .neq (.t 25) (.c (I 0)))] [25]) (
 .cond (.t 26) (sq (.reg [
 O 27 (.agg [(I 0), (I 0), (.s []), (.l (K1 2) [] true), (.l (K1 3) [] true), (.l (K1 4) [] true), (I 0), (I 0), (I 0), (I 0), (I 0), (I 0), (I 0), (I 0), (I 0), (I 0), (I 0), (I 0), (I 0), (I 0), (.l (K1 19) [] true), (.l (K1 7) [] true), (.l (K1 10) [] true), (.l (K1 6) [] true), (.l (K1 7) [] true), (.l (K1 11) [] true), (.l (K1 25) [] true), (.l (K1 10) [] true), (.l (K1 7) [] true), (.l (K1 9) [] true), (.l (K1 7) [] true), (.l (K1 7) [] true), (.l (K1 3) [] true), (.l (K1 35) [] true), (.l (K1 5) [] true), (.b false), (I 0), (I 0), (I 0), (I 0), (.l (K1 3) [] true), (.l (K1 3) [] true)] []),
 O 28 (.mov (.t 11)),
 E (.store (K1 42) (.t 8) (.t 27)),
 O 9 (.mov (.t 28))] [11, 28, 27]) (
 .ret))
 (.skip)))) (
 sq (sq (.reg [
 O 29 (.load (K1 22) (.t 6)),
 O 30 (.mov (.t 1)),
 O 31 (.mov (.t 0)),
 O 32 (.agg [(.b false), (I 0), (I 0), (I 0)] []),
 O 33 (.call 0 490 [(.t 29), (.t 30), (.t 31), (.t 32)]),
 O 12 (.mov (.t 33))] [33, 32, 31, 30, 29]) (
 sq (.reg [
 O 34 (.mov (.t 12)),
 O 35 (.bin .neq (.t 34) (.c (I 0)))] [34]) (
 .cond (.t 35) (sq (.reg [
 O 36 (.agg [(I 0), (I 0), (.s []), (.l (K1 2) [] true), (.l (K1 3) [] true), (.l (K1 4) [] true), (I 0), (I 0), (I 0), (I 0), (I 0), (I 0), (I 0), (I 0), (I 0), (I 0), (I 0), (I 0), (I 0), (I 0), (.l (K1 19) [] true), (.l (K1 7) [] true), (.l (K1 10) [] true), (.l (K1 6) [] true), (.l (K1 7) [] true), (.l (K1 11) [] true), (.l (K1 25) [] true), (.l (K1 10) [] true), (.l (K1 7) [] true), (.l (K1 9) [] true), (.l (K1 7) [] true), (.l (K1 7) [] true), (.l (K1 3) [] true), (.l (K1 35) [] true), (.l (K1 5) [] true), (.b false), (I 0), (I 0), (I 0), (I 0), (.l (K1 3) [] true), (.l (K1 3) [] true)] []),
 O 37 (.mov (.t 12)),
 E (.store (K1 42) (.t 8) (.t 36)),
 O 9 (.mov (.t 37))] [12, 37, 36]) (
 .ret))
 (.skip)))) (
 sq (.reg [
 O 13 (.mov (.c (I 999)))] []) (
 sq (sq (.reg [
 O 14 (.mov (.c (I 0)))] []) (
 .block 0 (
 .loop [0, 1, 3, 6, 8, 13, 14] L480_0))) (
 sq (sq (.reg [
 O 15 (.mov (.c (I 0)))] []) (
 .block 2 (
 .loop [0, 1, 3, 6, 8, 13, 15] L480_1))) (
 sq (sq (.reg [
 O 16 (.mov (.c (I 0)))] []) (
 .block 4 (
 .loop [0, 1, 3, 6, 8, 13, 16] L480_2))) (
 sq (sq (.reg [
 O 83 (.mov (.t 13)),
 O 84 (.bin .geq (.t 83) (.c (I 99999999)))] [83]) (
 .cond (.t 84) (sq (.reg [
 O 85 (.agg [(I 0), (I 0), (.s []), (.l (K1 2) [] true), (.l (K1 3) [] true), (.l (K1 4) [] true), (I 0), (I 0), (I 0), (I 0), (I 0), (I 0), (I 0), (I 0), (I 0), (I 0), (I 0), (I 0), (I 0), (I 0), (.l (K1 19) [] true), (.l (K1 7) [] true), (.l (K1 10) [] true), (.l (K1 6) [] true), (.l (K1 7) [] true), (.l (K1 11) [] true), (.l (K1 25) [] true), (.l (K1 10) [] true), (.l (K1 7) [] true), (.l (K1 9) [] true), (.l (K1 7) [] true), (.l (K1 7) [] true), (.l (K1 3) [] true), (.l (K1 35) [] true), (.l (K1 5) [] true), (.b false), (I 0), (I 0), (I 0), (I 0), (.l (K1 3) [] true), (.l (K1 3) [] true)] []),
 E (.store (K1 42) (.t 8) (.t 85)),
 O 9 (.mov (.c (I 5)))] [85]) (
 .ret))
 (.skip))) (
 sq (.reg [
 O 86 (.mov (.t 0)),
 O 87 (.mov (.t 13)),
 O 88 (.bin .add (.t 87) (.c (I 1))),
 O 89 (.mov (.t 1)),
 O 90 (.load (K1 22) (.t 6)),
 O 91 (.mov (.t 3)),
 O 92 (.agg [(I 0), (I 0), (.s []), (.l (K1 2) [] true), (.l (K1 3) [] true), (.l (K1 4) [] true), (I 0), (I 0), (I 0), (I 0), (I 0), (I 0), (I 0), (I 0), (I 0), (I 0), (I 0), (I 0), (I 0), (I 0), (.l (K1 19) [] true), (.l (K1 7) [] true), (.l (K1 10) [] true), (.l (K1 6) [] true), (.l (K1 7) [] true), (.l (K1 11) [] true), (.l (K1 25) [] true), (.l (K1 10) [] true), (.l (K1 7) [] true), (.l (K1 9) [] true), (.l (K1 7) [] true), (.l (K1 7) [] true), (.l (K1 3) [] true), (.l (K1 35) [] true), (.l (K1 5) [] true), (.b false), (I 0), (I 0), (I 0), (I 0), (.l (K1 3) [] true), (.l (K1 3) [] true)] [(0, K0, (.t 86)), (1, K0, (.t 88)), (2, K0, (.t 89)), (3, (K1 22), (.t 90)), (32, K0, (.t 91))]),
 E (.store (K1 42) (.t 8) (.t 92)),
 O 9 (.mov (.c (I 0)))] [92, 3, 91, 6, 90, 1, 89, 88, 13, 87, 0, 86]) (
 .ret))))))))))⟩
def F488 : PF := ⟨1, [.t 2],
 sq (.reg [
 O 1 (.box (K1 22) (.t 0)),
 O 2 (.mov (.c (I 0)))] [2, 0]) (
 sq (.reg [
 O 4 (.faddr 0 (.t 1)),
 O 5 (.load K0 (.t 4)),
 O 6 (.call 0 504 [(.t 5)]),
 O 3 (.mov (.t 6))] [6, 5, 4]) (
 sq (sq (.reg [
 O 7 (.mov (.t 3)),
 O 8 (.bin .eql (.t 7) (.c (I 0)))] [7]) (
 .cond (.t 8) (.reg [
 O 9 (.faddr 1 (.t 1)),
 O 10 (.load K0 (.t 9)),
 O 11 (.call 0 505 [(.t 10)]),
 O 3 (.mov (.t 11))] [11, 10, 9])
 (.skip))) (
 sq (sq (.reg [
 O 12 (.mov (.t 3)),
 O 13 (.bin .eql (.t 12) (.c (I 0)))] [12]) (
 .cond (.t 13) (.reg [
 O 14 (.faddr 2 (.t 1)),
 O 15 (.load K0 (.t 14)),
 O 16 (.faddr 3 (.t 1)),
 O 17 (.load (K1 14) (.t 16)),
 O 18 (.call 0 506 [(.t 15), (.t 17)]),
 O 3 (.mov (.t 18))] [18, 17, 16, 15, 14])
 (.skip))) (
 sq (sq (.reg [
 O 19 (.mov (.t 3)),
 O 20 (.bin .eql (.t 19) (.c (I 0)))] [19]) (
 .cond (.t 20) (.reg [
 O 21 (.load (K1 22) (.t 1)),
 O 22 (.call 0 507 [(.t 21)]),
 O 3 (.mov (.t 22))] [22, 21])
 (.skip))) (
 sq (sq (.reg [
 O 23 (.mov (.t 3)),
 O 24 (.bin .eql (.t 23) (.c (I 0)))] [23]) (
 .cond (.t 24) (.reg [
 O 25 (.load (K1 22) (.t 1)),
 O 26 (.call 0 508 [(.t 25)]),
 O 3 (.mov (.t 26))] [26, 25])
 (.skip))) (
 sq (sq (.reg [
 O 27 (.mov (.t 3)),
 O 28 (.bin .eql (.t 27) (.c (I 0)))] [27]) (
 .cond (.t 28) (.reg [
 O 29 (.load (K1 22) (.t 1)),
 O 30 (.call 0 509 [(.t 29)]),
 O 3 (.mov (.t 30))] [30, 29])
 (.skip))) (
 sq (sq (.reg [
 O 31 (.mov (.t 3)),
 O 32 (.bin .eql (.t 31) (.c (I 0)))] [31]) (
 .cond (.t 32) (.reg [
 O 33 (.faddr 20 (.t 1)),
 O 34 (.load K0 (.t 33)),
 O 35 (.call 0 510 [(.t 34)]),
 O 3 (.mov (.t 35))] [35, 34, 33])
 (.skip))) (
 sq (sq (.reg [
 O 36 (.mov (.t 3)),
 O 37 (.bin .eql (.t 36) (.c (I 0)))] [36]) (
 .cond (.t 37) (.reg [
 O 38 (.faddr 21 (.t 1)),
 O 39 (.load K0 (.t 38)),
 O 40 (.call 0 511 [(.t 39)]),
 O 3 (.mov (.t 40))] [40, 39, 1, 38])
 (.skip))) (
 sq (.reg [
 O 41 (.mov (.t 3)),
 O 2 (.mov (.t 41))] [3, 41]) (
 .ret))))))))))⟩
def L489_0 : PC :=
 sq (sq (.reg [
 O 13 (.mov (.t 3)),
 O 14 (.mov (.t 0)),
 O 15 (.len false (.t 14)),
 O 16 (.bin .lss (.t 13) (.t 15))] [15, 14, 13]) (
 .cond (.t 16) (.skip)
 (.exit 0))) (
 sq (.block 1 (
 sq (.reg [
 O 19 (.mov (.t 0)),
 O 20 (.mov (.t 3)),
 O 21 (.iaddr (K1 3) (.t 19) (.t 20)),
 O 22 (.load (K1 3) (.t 21)),
 O 4 (.alloc (K1 3) (.a [(.s []), (I 0), (I 0)])),
 E (.store (K1 3) (.t 4) (.t 22))] [22, 21, 20, 19]) (
 sq (sq (.reg [
 O 23 (.faddr 0 (.t 4)),
 O 24 (.load K0 (.t 23)),
 O 25 (.call 0 512 [(.t 24)]),
 O 26 (.un .not (.t 25))] [25, 24, 23]) (
 .cond (.t 26) (sq (.reg [
 O 2 (.mov (.c (I 4)))] []) (
 .ret))
 (.skip))) (
 sq (sq (.reg [
 O 27 (.faddr 1 (.t 4)),
 O 28 (.load K0 (.t 27)),
 O 29 (.bin .lss (.t 28) (.c (I 0))),
 O 30 (.mov (.t 29)),
 OG 31 30 false (.faddr 1 (.t 4)),
 OG 32 30 false (.load K0 (.t 31)),
 OG 33 30 false (.bin .gtr (.t 32) (.c (I 127))),
 O 34 (.pick (.t 30) (.c (.b true)) (.t 33)),
 O 35 (.mov (.t 34)),
 OG 36 35 false (.faddr 2 (.t 4)),
 OG 37 35 false (.load K0 (.t 36)),
 OG 38 35 false (.bin .lss (.t 37) (.c (I 0))),
 O 39 (.pick (.t 35) (.c (.b true)) (.t 38)),
 O 40 (.mov (.t 39)),
 OG 41 40 false (.faddr 2 (.t 4)),
 OG 42 40 false (.load K0 (.t 41)),
 OG 43 40 false (.bin .gtr (.t 42) (.c (I 1000000000000))),
 O 44 (.pick (.t 40) (.c (.b true)) (.t 43))] [43, 42, 41, 40, 39, 38, 37, 36, 35, 34, 33, 32, 31, 30, 29, 28, 27]) (
 .cond (.t 44) (sq (.reg [
 O 2 (.mov (.c (I 1)))] []) (
 .ret))
 (.skip))) (
 sq (.regD [
 O 45 (.mov (.t 3)),
 O 46 (.bin .gtr (.t 45) (.c (I 0))),
 O 47 (.mov (.t 46)),
 OG 48 47 true (.faddr 0 (.t 4)),
 OG 49 47 true (.load K0 (.t 48)),
 OG 50 47 true (.mov (.t 0)),
 OG 51 47 true (.mov (.t 3)),
 OG 52 47 true (.bin .sub (.t 51) (.c (I 1))),
 OG 53 47 true (.iaddr (K1 3) (.t 50) (.t 52)),
 OG 54 47 true (.faddr 0 (.t 53)),
 OG 55 47 true (.load K0 (.t 54)),
 OG 56 47 true (.bin .leq (.t 49) (.t 55)),
 O 57 (.pick (.t 47) (.t 56) (.c (.b false)))] [0, 1, 3, 7, 15, 7, 7, 71, 231, 487, 999, 2047, 4095] [56, 55, 54, 53, 52, 51, 50, 49, 4, 48, 47, 46, 45]) (
 .cond (.t 57) (sq (.reg [
 O 2 (.mov (.c (I 10)))] []) (
 .ret))
 (.skip))))))) (
 .reg [
 O 17 (.mov (.t 3)),
 O 18 (.bin .add (.t 17) (.c (I 1))),
 O 3 (.mov (.t 18))] [18, 17]))
def F489 : PF := ⟨1, [.t 2],
 sq (.reg [
 O 2 (.mov (.c (I 0)))] [2]) (
 sq (sq (.reg [
 O 5 (.mov (.t 0)),
 O 6 (.len false (.t 5)),
 O 7 (.bin .lss (.t 6) (.c (I 1))),
 O 8 (.mov (.t 7)),
 OG 9 8 false (.mov (.t 0)),
 OG 10 8 false (.len false (.t 9)),
 OG 11 8 false (.bin .gtr (.t 10) (.c (I 16))),
 O 12 (.pick (.t 8) (.c (.b true)) (.t 11))] [11, 10, 9, 8, 7, 6, 5]) (
 .cond (.t 12) (sq (.reg [
 O 2 (.mov (.c (I 5)))] []) (
 .ret))
 (.skip))) (
 sq (sq (.reg [
 O 3 (.mov (.c (I 0)))] []) (
 .block 0 (
 .loop [0, 3] L489_0))) (
 sq (.reg [
 O 2 (.mov (.c (I 0)))] []) (
 .ret))))⟩
def L490_0 : PC :=
 sq (sq (.reg [
 O 35 (.mov (.t 11)),
 O 36 (.faddr 19 (.t 4)),
 O 37 (.load K0 (.t 36)),
 O 38 (.len false (.t 37)),
 O 39 (.bin .lss (.t 35) (.t 38))] [38, 37, 36, 35]) (
 .cond (.t 39) (.skip)
 (.exit 0))) (
 sq (.block 1 (
 sq (.reg [
 O 42 (.faddr 19 (.t 4)),
 O 43 (.load K0 (.t 42)),
 O 44 (.mov (.t 11)),
 O 45 (.iaddr (K1 10) (.t 43) (.t 44)),
 O 46 (.load (K1 10) (.t 45)),
 O 12 (.alloc (K1 10) (.a [(I 0), (I 0), (I 0), (I 0), (I 0), (I 0), (.s []), (.s []), (.l (K1 3) [] true), (.i .u64 0)])),
 E (.store (K1 10) (.t 12) (.t 46))] [46, 45, 44, 43, 42]) (
 sq (sq (.reg [
 O 47 (.faddr 6 (.t 12)),
 O 48 (.load K0 (.t 47)),
 O 49 (.call 0 516 [(.t 48), (.c (.s [101, 111, 100, 47]))]),
 O 50 (.un .not (.t 49))] [49, 48, 47]) (
 .cond (.t 50) (.exit 1)
 (.skip))) (
 sq (.regD [
 O 51 (.faddr 6 (.t 12)),
 O 52 (.load K0 (.t 51)),
 O 53 (.faddr 1 (.t 12)),
 O 54 (.load K0 (.t 53)),
 O 55 (.call 0 517 [(.t 54)]),
 O 56 (.bin .add (.c (.s [101, 111, 100, 47])) (.t 55)),
 O 57 (.bin .add (.t 56) (.c (.s [47]))),
 O 58 (.call 0 516 [(.t 52), (.t 57)]),
 O 59 (.mov (.t 58)),
 OG 60 59 true (.faddr 1 (.t 12)),
 OG 61 59 true (.load K0 (.t 60)),
 OG 62 59 true (.mov (.t 2)),
 OG 63 59 true (.bin .lss (.t 61) (.t 62)),
 O 64 (.pick (.t 59) (.t 63) (.c (.b false))),
 O 13 (.mov (.t 64))] [0, 1, 0, 4, 12, 28, 60, 127, 255, 511, 1023, 511, 4095, 8191, 16383] [64, 63, 62, 61, 60, 59, 58, 57, 56, 55, 54, 53, 52, 51]) (
 sq (.reg [
 O 65 (.mov (.t 13)),
 O 66 (.un .not (.t 65)),
 O 67 (.mov (.t 66)),
 OG 68 67 true (.faddr 1 (.t 12)),
 OG 69 67 true (.load K0 (.t 68)),
 OG 70 67 true (.mov (.t 2)),
 OG 71 67 true (.bin .eql (.t 69) (.t 70)),
 OG 72 67 true (.mov (.t 71)),
 OG 73 72 true (.faddr 6 (.t 12)),
 OG 74 72 true (.load K0 (.t 73)),
 OG 75 72 true (.mov (.t 2)),
 OG 76 72 true (.load (K1 4) (.t 7)),
 OG 77 72 true (.call 0 518 [(.t 74), (.t 75), (.t 76)]),
 OG 78 67 true (.pick (.t 72) (.t 77) (.c (.b false))),
 OG 79 67 true (.un .not (.t 78)),
 O 80 (.pick (.t 67) (.t 79) (.c (.b false)))] [79, 78, 77, 76, 75, 74, 73, 72, 71, 70, 69, 12, 68, 67, 66, 13, 65]) (
 .cond (.t 80) (sq (.reg [
 O 8 (.mov (.c (I 17)))] []) (
 .ret))
 (.skip))))))) (
 .reg [
 O 40 (.mov (.t 11)),
 O 41 (.bin .add (.t 40) (.c (I 1))),
 O 11 (.mov (.t 41))] [41, 40]))
def F490 : PF := ⟨4, [.t 8],
 sq (.reg [
 O 4 (.box (K1 22) (.t 0)),
 O 7 (.box (K1 4) (.t 3)),
 O 8 (.mov (.c (I 0)))] [8, 3, 0]) (
 sq (.reg [
 O 15 (.faddr 1 (.t 4)),
 O 16 (.load K0 (.t 15)),
 O 17 (.mov (.t 1)),
 O 18 (.call 0 513 [(.t 16), (.t 17)]),
 O 14 (.mov (.t 18)),
 O 19 (.ext (.t 14) 0),
 O 20 (.ext (.t 14) 1),
 O 9 (.alloc (K1 3) (.a [(.s []), (.l K0 [] true), (.l K0 [] true)])),
 E (.store (K1 3) (.t 9) (.t 19)),
 O 10 (.mov (.t 20))] [20, 19, 14, 18, 1, 17, 16, 15]) (
 sq (sq (.reg [
 O 21 (.mov (.t 10)),
 O 22 (.un .not (.t 21))] [10, 21]) (
 .cond (.t 22) (sq (.reg [
 O 8 (.mov (.c (I 11)))] []) (
 .ret))
 (.skip))) (
 sq (sq (.reg [
 O 23 (.load (K1 3) (.t 9)),
 O 24 (.mov (.t 2)),
 O 25 (.call 0 514 [(.t 23), (.t 24)]),
 O 26 (.un .not (.t 25))] [25, 24, 9, 23]) (
 .cond (.t 26) (sq (.reg [
 O 8 (.mov (.c (I 1)))] []) (
 .ret))
 (.skip))) (
 sq (sq (.reg [
 O 27 (.faddr 0 (.t 7)),
 O 28 (.load K0 (.t 27)),
 O 29 (.un .not (.t 28)),
 O 30 (.mov (.t 29)),
 OG 31 30 true (.load (K1 22) (.t 4)),
 OG 32 30 true (.mov (.t 2)),
 OG 33 30 true (.call 0 515 [(.t 31), (.t 32)]),
 O 34 (.pick (.t 30) (.t 33) (.c (.b false)))] [33, 32, 31, 30, 29, 28, 27]) (
 .cond (.t 34) (sq (.reg [
 O 8 (.mov (.c (I 10)))] []) (
 .ret))
 (.skip))) (
 sq (sq (.reg [
 O 11 (.mov (.c (I 0)))] []) (
 .block 0 (
 .loop [2, 4, 7, 11] L490_0))) (
 sq (.reg [
 O 8 (.mov (.c (I 0)))] []) (
 .ret)))))))⟩
def F495 : PF := ⟨2, [.c 4 (K1 10), .t 5],
 sq (.reg [
 O 3 (.box K0 (.t 1)),
 O 4 (.alloc (K1 10) (.a [(I 0), (I 0), (I 0), (I 0), (I 0), (I 0), (.s []), (.s []), (.l (K1 3) [] true), (.i .u64 0)])),
 O 5 (.mov (.c (.b false)))] [5, 1]) (
 sq (.reg [
 O 7 (.mov (.t 0)),
 O 8 (.mkf 522 [(.t 3)]),
 O 9 (.call 2 244 [(.t 7), (.t 8)]),
 O 6 (.mov (.t 9))] [9, 3, 8, 7]) (
 sq (sq (.reg [
 O 10 (.mov (.t 6)),
 O 11 (.bin .lss (.t 10) (.c (I 0)))] [10]) (
 .cond (.t 11) (sq (.reg [
 O 12 (.agg [(I 0), (I 0), (I 0), (I 0), (I 0), (I 0), (.s []), (.s []), (.l (K1 3) [] true), (.i .u64 0)] []),
 E (.store (K1 10) (.t 4) (.t 12)),
 O 5 (.mov (.c (.b false)))] [12]) (
 .ret))
 (.skip))) (
 sq (.reg [
 O 13 (.mov (.t 0)),
 O 14 (.mov (.t 6)),
 O 15 (.iaddr (K1 10) (.t 13) (.t 14)),
 O 16 (.load (K1 10) (.t 15)),
 E (.store (K1 10) (.t 4) (.t 16)),
 O 5 (.mov (.c (.b true)))] [16, 15, 6, 14, 0, 13]) (
 .ret))))⟩
def L504_0 : PC :=
 sq (sq (.reg [
 O 12 (.mov (.t 3)),
 O 13 (.mov (.t 0)),
 O 14 (.len false (.t 13)),
 O 15 (.bin .lss (.t 12) (.t 14))] [14, 13, 12]) (
 .cond (.t 15) (.skip)
 (.exit 0))) (
 sq (.block 1 (
 sq (sq (.reg [
 O 18 (.mov (.t 0)),
 O 19 (.mov (.t 3)),
 O 20 (.iaddr (K1 2) (.t 18) (.t 19)),
 O 21 (.faddr 0 (.t 20)),
 O 22 (.load K0 (.t 21)),
 O 23 (.call 0 537 [(.t 22)]),
 O 24 (.un .not (.t 23))] [23, 22, 21, 20, 19, 18]) (
 .cond (.t 24) (sq (.reg [
 O 2 (.mov (.c (I 4)))] []) (
 .ret))
 (.skip))) (
 sq (sq (.reg [
 O 25 (.mov (.t 0)),
 O 26 (.mov (.t 3)),
 O 27 (.iaddr (K1 2) (.t 25) (.t 26)),
 O 28 (.faddr 1 (.t 27)),
 O 29 (.load K0 (.t 28)),
 O 30 (.bin .lss (.t 29) (.c (I 0))),
 O 31 (.mov (.t 30)),
 OG 32 31 false (.mov (.t 0)),
 OG 33 31 false (.mov (.t 3)),
 OG 34 31 false (.iaddr (K1 2) (.t 32) (.t 33)),
 OG 35 31 false (.faddr 1 (.t 34)),
 OG 36 31 false (.load K0 (.t 35)),
 OG 37 31 false (.bin .gtr (.t 36) (.c (I 4))),
 O 38 (.pick (.t 31) (.c (.b true)) (.t 37))] [37, 36, 35, 34, 33, 32, 31, 30, 29, 28, 27, 26, 25]) (
 .cond (.t 38) (sq (.reg [
 O 2 (.mov (.c (I 1)))] []) (
 .ret))
 (.skip))) (
 sq (.regD [
 O 39 (.mov (.t 3)),
 O 40 (.bin .gtr (.t 39) (.c (I 0))),
 O 41 (.mov (.t 40)),
 OG 42 41 true (.mov (.t 0)),
 OG 43 41 true (.mov (.t 3)),
 OG 44 41 true (.iaddr (K1 2) (.t 42) (.t 43)),
 OG 45 41 true (.faddr 0 (.t 44)),
 OG 46 41 true (.load K0 (.t 45)),
 OG 47 41 true (.mov (.t 0)),
 OG 48 41 true (.mov (.t 3)),
 OG 49 41 true (.bin .sub (.t 48) (.c (I 1))),
 OG 50 41 true (.iaddr (K1 2) (.t 47) (.t 49)),
 OG 51 41 true (.faddr 0 (.t 50)),
 OG 52 41 true (.load K0 (.t 51)),
 OG 53 41 true (.bin .leq (.t 46) (.t 52)),
 O 54 (.pick (.t 41) (.t 53) (.c (.b false)))] [0, 1, 3, 7, 7, 31, 63, 127, 7, 7, 519, 1799, 3847, 7943, 16383, 32767] [53, 52, 51, 50, 49, 48, 47, 46, 45, 44, 43, 42, 41, 40, 39]) (
 .cond (.t 54) (sq (.reg [
 O 2 (.mov (.c (I 10)))] []) (
 .ret))
 (.skip)))))) (
 .reg [
 O 16 (.mov (.t 3)),
 O 17 (.bin .add (.t 16) (.c (I 1))),
 O 3 (.mov (.t 17))] [17, 16]))
def F504 : PF := ⟨1, [.t 2],
 sq (.reg [
 O 2 (.mov (.c (I 0)))] [2]) (
 sq (sq (.reg [
 O 4 (.mov (.t 0)),
 O 5 (.len false (.t 4)),
 O 6 (.bin .lss (.t 5) (.c (I 1))),
 O 7 (.mov (.t 6)),
 OG 8 7 false (.mov (.t 0)),
 OG 9 7 false (.len false (.t 8)),
 OG 10 7 false (.bin .gtr (.t 9) (.c (I 8))),
 O 11 (.pick (.t 7) (.c (.b true)) (.t 10))] [10, 9, 8, 7, 6, 5, 4]) (
 .cond (.t 11) (sq (.reg [
 O 2 (.mov (.c (I 5)))] []) (
 .ret))
 (.skip))) (
 sq (sq (.reg [
 O 3 (.mov (.c (I 0)))] []) (
 .block 0 (
 .loop [0, 3] L504_0))) (
 sq (.reg [
 O 2 (.mov (.c (I 0)))] []) (
 .ret))))⟩
def L505_0 : PC :=
 sq (sq (.reg [
 O 5 (.mov (.t 3)),
 O 6 (.mov (.t 0)),
 O 7 (.len false (.t 6)),
 O 8 (.bin .lss (.t 5) (.t 7))] [7, 6, 5]) (
 .cond (.t 8) (.skip)
 (.exit 0))) (
 sq (.block 1 (
 sq (.reg [
 O 11 (.mov (.t 0)),
 O 12 (.mov (.t 3)),
 O 13 (.iaddr (K1 3) (.t 11) (.t 12)),
 O 14 (.load (K1 3) (.t 13)),
 O 15 (.call 0 538 [(.t 14)]),
 O 4 (.mov (.t 15))] [15, 14, 13, 12, 11]) (
 sq (sq (.reg [
 O 16 (.mov (.t 4)),
 O 17 (.bin .neq (.t 16) (.c (I 0)))] [16]) (
 .cond (.t 17) (sq (.reg [
 O 18 (.mov (.t 4)),
 O 2 (.mov (.t 18))] [4, 18]) (
 .ret))
 (.skip))) (
 sq (.regD [
 O 19 (.mov (.t 3)),
 O 20 (.bin .gtr (.t 19) (.c (I 0))),
 O 21 (.mov (.t 20)),
 OG 22 21 true (.mov (.t 0)),
 OG 23 21 true (.mov (.t 3)),
 OG 24 21 true (.iaddr (K1 3) (.t 22) (.t 23)),
 OG 25 21 true (.faddr 0 (.t 24)),
 OG 26 21 true (.load K0 (.t 25)),
 OG 27 21 true (.mov (.t 0)),
 OG 28 21 true (.mov (.t 3)),
 OG 29 21 true (.bin .sub (.t 28) (.c (I 1))),
 OG 30 21 true (.iaddr (K1 3) (.t 27) (.t 29)),
 OG 31 21 true (.faddr 0 (.t 30)),
 OG 32 21 true (.load K0 (.t 31)),
 OG 33 21 true (.bin .leq (.t 26) (.t 32)),
 O 34 (.pick (.t 21) (.t 33) (.c (.b false)))] [0, 1, 3, 7, 7, 31, 63, 127, 7, 7, 519, 1799, 3847, 7943, 16383, 32767] [33, 32, 31, 30, 29, 28, 27, 26, 25, 24, 23, 22, 21, 20, 19]) (
 .cond (.t 34) (sq (.reg [
 O 2 (.mov (.c (I 10)))] []) (
 .ret))
 (.skip)))))) (
 .reg [
 O 9 (.mov (.t 3)),
 O 10 (.bin .add (.t 9) (.c (I 1))),
 O 3 (.mov (.t 10))] [10, 9]))
def F505 : PF := ⟨1, [.t 2],
 sq (.reg [
 O 2 (.mov (.c (I 0)))] [2]) (
 sq (sq (.reg [
 O 3 (.mov (.c (I 0)))] []) (
 .block 0 (
 .loop [0, 3] L505_0))) (
 sq (.reg [
 O 2 (.mov (.c (I 0)))] []) (
 .ret)))⟩
def L506_0 : PC :=
 sq (sq (.reg [
 O 21 (.mov (.t 5)),
 O 22 (.mov (.t 0)),
 O 23 (.len false (.t 22)),
 O 24 (.bin .lss (.t 21) (.t 23))] [23, 22, 21]) (
 .cond (.t 24) (.skip)
 (.exit 0))) (
 sq (.block 1 (
 sq (.reg [
 O 27 (.mov (.t 0)),
 O 28 (.mov (.t 5)),
 O 29 (.iaddr (K1 4) (.t 27) (.t 28)),
 O 30 (.load (K1 4) (.t 29)),
 O 6 (.alloc (K1 4) (.a [(I 0), (I 0), (I 0), (.s [])])),
 E (.store (K1 4) (.t 6) (.t 30))] [30, 29, 28, 27]) (
 sq (sq (.reg [
 O 31 (.faddr 0 (.t 6)),
 O 32 (.load K0 (.t 31)),
 O 33 (.bin .lss (.t 32) (.c (I 1))),
 O 34 (.mov (.t 33)),
 OG 35 34 false (.faddr 0 (.t 6)),
 OG 36 34 false (.load K0 (.t 35)),
 OG 37 34 false (.bin .gtr (.t 36) (.c (I 999))),
 O 38 (.pick (.t 34) (.c (.b true)) (.t 37)),
 O 39 (.mov (.t 38)),
 OG 40 39 false (.faddr 2 (.t 6)),
 OG 41 39 false (.load K0 (.t 40)),
 OG 42 39 false (.bin .lss (.t 41) (.c (I 1))),
 O 43 (.pick (.t 39) (.c (.b true)) (.t 42)),
 O 44 (.mov (.t 43)),
 OG 45 44 false (.faddr 2 (.t 6)),
 OG 46 44 false (.load K0 (.t 45)),
 OG 47 44 false (.bin .gtr (.t 46) (.c (I 5))),
 O 48 (.pick (.t 44) (.c (.b true)) (.t 47))] [47, 46, 45, 44, 43, 42, 41, 40, 39, 38, 37, 36, 35, 34, 33, 32, 31]) (
 .cond (.t 48) (sq (.reg [
 O 4 (.mov (.c (I 1)))] []) (
 .ret))
 (.skip))) (
 sq (sq (.regD [
 O 49 (.mov (.t 5)),
 O 50 (.bin .gtr (.t 49) (.c (I 0))),
 O 51 (.mov (.t 50)),
 OG 52 51 true (.faddr 0 (.t 6)),
 OG 53 51 true (.load K0 (.t 52)),
 OG 54 51 true (.mov (.t 0)),
 OG 55 51 true (.mov (.t 5)),
 OG 56 51 true (.bin .sub (.t 55) (.c (I 1))),
 OG 57 51 true (.iaddr (K1 4) (.t 54) (.t 56)),
 OG 58 51 true (.faddr 0 (.t 57)),
 OG 59 51 true (.load K0 (.t 58)),
 OG 60 51 true (.bin .leq (.t 53) (.t 59)),
 O 61 (.pick (.t 51) (.t 60) (.c (.b false)))] [0, 1, 3, 7, 15, 7, 7, 71, 231, 487, 999, 2047, 4095] [60, 59, 58, 57, 56, 55, 54, 53, 52, 51, 50, 49]) (
 .cond (.t 61) (sq (.reg [
 O 4 (.mov (.c (I 10)))] []) (
 .ret))
 (.skip))) (
 sq (sq (.reg [
 O 62 (.faddr 3 (.t 6)),
 O 63 (.load K0 (.t 62)),
 O 64 (.call 0 539 [(.t 63)]),
 O 65 (.un .not (.t 64))] [64, 63, 62]) (
 .cond (.t 65) (sq (.reg [
 O 4 (.mov (.c (I 4)))] []) (
 .ret))
 (.skip))) (
 sq (sq (.reg [
 O 66 (.faddr 1 (.t 6)),
 O 67 (.load K0 (.t 66)),
 O 68 (.bin .eql (.t 67) (.c (I 0)))] [67, 66]) (
 .cond (.t 68) (.exit 1)
 (.skip))) (
 sq (.regD [
 O 70 (.mov (.t 0)),
 O 71 (.mov (.t 5)),
 O 72 (.sl (K1 4) (.t 70) none (some (.t 71)) none),
 O 73 (.faddr 1 (.t 6)),
 O 74 (.load K0 (.t 73)),
 O 75 (.call 0 540 [(.t 72), (.t 74)]),
 O 69 (.mov (.t 75)),
 O 76 (.ext (.t 69) 0),
 O 77 (.ext (.t 69) 1),
 O 7 (.alloc (K1 4) (.a [(I 0), (I 0), (I 0), (.s [])])),
 E (.store (K1 4) (.t 7) (.t 76)),
 O 8 (.mov (.t 77))] [0, 0, 3, 0, 8, 31, 63, 127, 127, 0, 767, 2047] [77, 76, 69, 75, 74, 73, 72, 71, 70]) (
 sq (sq (.reg [
 O 78 (.mov (.t 8)),
 O 79 (.un .not (.t 78))] [8, 78]) (
 .cond (.t 79) (sq (.reg [
 O 4 (.mov (.c (I 11)))] []) (
 .ret))
 (.skip))) (
 sq (.reg [
 O 80 (.faddr 2 (.t 7)),
 O 81 (.load K0 (.t 80)),
 O 82 (.faddr 2 (.t 6)),
 O 83 (.load K0 (.t 82)),
 O 84 (.bin .neq (.t 81) (.t 83))] [83, 6, 82, 81, 7, 80]) (
 .cond (.t 84) (sq (.reg [
 O 4 (.mov (.c (I 3)))] []) (
 .ret))
 (.skip))))))))))) (
 .reg [
 O 25 (.mov (.t 5)),
 O 26 (.bin .add (.t 25) (.c (I 1))),
 O 5 (.mov (.t 26))] [26, 25]))
def L506_1 : PC :=
 sq (sq (.reg [
 O 115 (.mov (.t 11)),
 O 116 (.mov (.t 9)),
 O 117 (.len false (.t 116)),
 O 118 (.bin .lss (.t 115) (.t 117))] [117, 116, 115]) (
 .cond (.t 118) (.skip)
 (.exit 2))) (
 sq (.block 3 (
 sq (.regD [
 O 121 (.mov (.t 0)),
 O 122 (.mov (.t 9)),
 O 123 (.mov (.t 11)),
 O 124 (.iaddr K0 (.t 122) (.t 123)),
 O 125 (.load K0 (.t 124)),
 O 126 (.mov (.t 10)),
 O 127 (.mov (.t 11)),
 O 128 (.iaddr K0 (.t 126) (.t 127)),
 O 129 (.load K0 (.t 128)),
 O 130 (.call 0 541 [(.t 121), (.t 125), (.t 129)]),
 O 12 (.mov (.t 130))] [0, 0, 0, 6, 14, 0, 0, 96, 224, 511, 1023] [130, 129, 128, 127, 126, 125, 124, 123, 122, 121]) (
 sq (.reg [
 O 131 (.mov (.t 12)),
 O 132 (.bin .neq (.t 131) (.c (I 0)))] [131]) (
 .cond (.t 132) (sq (.reg [
 O 133 (.mov (.t 12)),
 O 4 (.mov (.t 133))] [12, 133]) (
 .ret))
 (.skip))))) (
 .reg [
 O 119 (.mov (.t 11)),
 O 120 (.bin .add (.t 119) (.c (I 1))),
 O 11 (.mov (.t 120))] [120, 119]))
def F506 : PF := ⟨2, [.t 4],
 sq (.reg [
 O 3 (.box (K1 14) (.t 1)),
 O 4 (.mov (.c (I 0)))] [4, 1]) (
 sq (sq (.reg [
 O 13 (.mov (.t 0)),
 O 14 (.len false (.t 13)),
 O 15 (.bin .lss (.t 14) (.c (I 1))),
 O 16 (.mov (.t 15)),
 OG 17 16 false (.mov (.t 0)),
 OG 18 16 false (.len false (.t 17)),
 OG 19 16 false (.bin .gtr (.t 18) (.c (I 40))),
 O 20 (.pick (.t 16) (.c (.b true)) (.t 19))] [19, 18, 17, 16, 15, 14, 13]) (
 .cond (.t 20) (sq (.reg [
 O 4 (.mov (.c (I 5)))] []) (
 .ret))
 (.skip))) (
 sq (sq (.reg [
 O 5 (.mov (.c (I 0)))] []) (
 .block 0 (
 .loop [0, 3, 5] L506_0))) (
 sq (.reg [
 O 85 (.faddr 0 (.t 3)),
 O 86 (.load K0 (.t 85)),
 O 87 (.faddr 1 (.t 3)),
 O 88 (.load K0 (.t 87)),
 O 89 (.faddr 2 (.t 3)),
 O 90 (.load K0 (.t 89)),
 O 91 (.faddr 3 (.t 3)),
 O 92 (.load K0 (.t 91)),
 O 93 (.faddr 4 (.t 3)),
 O 94 (.load K0 (.t 93)),
 O 95 (.faddr 5 (.t 3)),
 O 96 (.load K0 (.t 95)),
 O 97 (.faddr 6 (.t 3)),
 O 98 (.load K0 (.t 97)),
 O 99 (.faddr 7 (.t 3)),
 O 100 (.load K0 (.t 99)),
 O 101 (.faddr 8 (.t 3)),
 O 102 (.load K0 (.t 101)),
 O 103 (.faddr 9 (.t 3)),
 O 104 (.load K0 (.t 103)),
 O 105 (.faddr 10 (.t 3)),
 O 106 (.load K0 (.t 105)),
 O 107 (.faddr 11 (.t 3)),
 O 108 (.load K0 (.t 107)),
 O 109 (.faddr 12 (.t 3)),
 O 110 (.load K0 (.t 109)),
 O 111 (.faddr 13 (.t 3)),
 O 112 (.load K0 (.t 111)),
 O 113 (.bsl K0 (I 0) 14 [(0, (.t 86)), (1, (.t 88)), (2, (.t 90)), (3, (.t 92)), (4, (.t 94)), (5, (.t 96)), (6, (.t 98)), (7, (.t 100)), (8, (.t 102)), (9, (.t 104)), (10, (.t 106)), (11, (.t 108)), (12, (.t 110)), (13, (.t 112))]),
 O 9 (.mov (.t 113))] [113, 112, 111, 110, 109, 108, 107, 106, 105, 104, 103, 102, 101, 100, 99, 98, 97, 96, 95, 94, 93, 92, 91, 90, 89, 88, 87, 86, 3, 85]) (
 sq (.reg [
 O 114 (.bsl K0 (I 0) 14 [(0, (.c (I 1))), (1, (.c (I 2))), (2, (.c (I 5))), (3, (.c (I 4))), (4, (.c (I 4))), (5, (.c (I 2))), (6, (.c (I 1))), (7, (.c (I 1))), (8, (.c (I 4))), (9, (.c (I 4))), (10, (.c (I 2))), (11, (.c (I 5))), (12, (.c (I 5))), (13, (.c (I 4)))]),
 O 10 (.mov (.t 114))] [114]) (
 sq (sq (.reg [
 O 11 (.mov (.c (I 0)))] []) (
 .block 2 (
 .loop [0, 9, 10, 11] L506_1))) (
 sq (.reg [
 O 4 (.mov (.c (I 0)))] []) (
 .ret)))))))⟩
def L507_0 : PC :=
 sq (sq (.reg [
 O 8 (.mov (.t 4)),
 O 9 (.faddr 17 (.t 1)),
 O 10 (.load K0 (.t 9)),
 O 11 (.len false (.t 10)),
 O 12 (.bin .lss (.t 8) (.t 11)),
 O 13 (.mov (.t 12)),
 OG 14 13 true (.mov (.t 3)),
 OG 15 13 true (.bin .eql (.t 14) (.c (I 0))),
 O 16 (.pick (.t 13) (.t 15) (.c (.b false)))] [15, 14, 13, 12, 11, 10, 9, 8]) (
 .cond (.t 16) (.skip)
 (.exit 0))) (
 sq (.block 1 (
 .regD [
 O 19 (.faddr 17 (.t 1)),
 O 20 (.load K0 (.t 19)),
 O 21 (.mov (.t 4)),
 O 22 (.iaddr (K1 19) (.t 20) (.t 21)),
 O 23 (.load (K1 19) (.t 22)),
 O 24 (.faddr 0 (.t 1)),
 O 25 (.load K0 (.t 24)),
 O 26 (.faddr 1 (.t 1)),
 O 27 (.load K0 (.t 26)),
 O 28 (.call 0 543 [(.t 23), (.t 25), (.t 27)]),
 O 3 (.mov (.t 28))] [0, 1, 0, 7, 15, 0, 32, 0, 128, 511, 1023] [28, 27, 26, 25, 24, 23, 22, 21, 20, 19])) (
 .reg [
 O 17 (.mov (.t 4)),
 O 18 (.bin .add (.t 17) (.c (I 1))),
 O 4 (.mov (.t 18))] [18, 17]))
def F507 : PF := ⟨1, [.t 2],
 sq (.reg [
 O 1 (.box (K1 22) (.t 0)),
 O 2 (.mov (.c (I 0)))] [2, 0]) (
 sq (.reg [
 O 5 (.faddr 17 (.t 1)),
 O 6 (.load K0 (.t 5)),
 O 7 (.call 0 542 [(.t 6)]),
 O 3 (.mov (.t 7))] [7, 6, 5]) (
 sq (sq (.reg [
 O 4 (.mov (.c (I 0)))] []) (
 .block 0 (
 .loop [1, 3, 4] L507_0))) (
 sq (.reg [
 O 29 (.mov (.t 3)),
 O 2 (.mov (.t 29))] [3, 29]) (
 .ret))))⟩
def L508_0 : PC :=
 sq (sq (.reg [
 O 11 (.mov (.t 3)),
 O 12 (.faddr 18 (.t 1)),
 O 13 (.load K0 (.t 12)),
 O 14 (.len false (.t 13)),
 O 15 (.bin .lss (.t 11) (.t 14))] [14, 13, 12, 11]) (
 .cond (.t 15) (.skip)
 (.exit 0))) (
 sq (.block 1 (
 sq (.reg [
 O 18 (.faddr 18 (.t 1)),
 O 19 (.load K0 (.t 18)),
 O 20 (.mov (.t 3)),
 O 21 (.iaddr (K1 7) (.t 19) (.t 20)),
 O 22 (.load (K1 7) (.t 21)),
 O 4 (.alloc (K1 7) (.a [(I 0), (I 0), (I 0), (I 0), (.s []), (.s []), (.s [])])),
 E (.store (K1 7) (.t 4) (.t 22))] [22, 21, 20, 19, 18]) (
 sq (.reg [
 O 23 (.faddr 2 (.t 4)),
 O 24 (.load K0 (.t 23)),
 O 25 (.bin .eql (.t 24) (.c (I 0))),
 O 26 (.mov (.t 25)),
 OG 27 26 false (.faddr 2 (.t 4)),
 OG 28 26 false (.load K0 (.t 27)),
 OG 29 26 false (.call 0 544 [(.t 28)]),
 OG 30 26 false (.mov (.t 29)),
 OG 31 30 true (.faddr 2 (.t 4)),
 OG 32 30 true (.load K0 (.t 31)),
 OG 33 30 true (.faddr 1 (.t 4)),
 OG 34 30 true (.load K0 (.t 33)),
 OG 35 30 true (.bin .geq (.t 32) (.t 34)),
 OG 36 26 false (.pick (.t 30) (.t 35) (.c (.b false))),
 O 37 (.pick (.t 26) (.c (.b true)) (.t 36)),
 O 5 (.mov (.t 37))] [37, 36, 35, 34, 33, 32, 31, 30, 29, 28, 27, 26, 25, 24, 23]) (
 sq (sq (.reg [
 O 38 (.load (K1 7) (.t 4)),
 O 39 (.call 0 545 [(.t 38)]),
 O 40 (.un .not (.t 39)),
 O 41 (.mov (.t 40)),
 OG 42 41 false (.mov (.t 5)),
 OG 43 41 false (.un .not (.t 42)),
 O 44 (.pick (.t 41) (.c (.b true)) (.t 43)),
 O 45 (.mov (.t 44)),
 OG 46 45 false (.faddr 3 (.t 4)),
 OG 47 45 false (.load K0 (.t 46)),
 OG 48 45 false (.bin .lss (.t 47) (.c (I 0))),
 O 49 (.pick (.t 45) (.c (.b true)) (.t 48)),
 O 50 (.mov (.t 49)),
 OG 51 50 false (.faddr 3 (.t 4)),
 OG 52 50 false (.load K0 (.t 51)),
 OG 53 50 false (.bin .gtr (.t 52) (.c (I 1000000000000))),
 O 54 (.pick (.t 50) (.c (.b true)) (.t 53))] [53, 52, 51, 50, 49, 48, 47, 46, 45, 44, 43, 5, 42, 41, 40, 39, 38]) (
 .cond (.t 54) (sq (.reg [
 O 2 (.mov (.c (I 1)))] []) (
 .ret))
 (.skip))) (
 sq (sq (.regD [
 O 55 (.mov (.t 3)),
 O 56 (.bin .gtr (.t 55) (.c (I 0))),
 O 57 (.mov (.t 56)),
 OG 58 57 true (.faddr 0 (.t 4)),
 OG 59 57 true (.load K0 (.t 58)),
 OG 60 57 true (.faddr 18 (.t 1)),
 OG 61 57 true (.load K0 (.t 60)),
 OG 62 57 true (.mov (.t 3)),
 OG 63 57 true (.bin .sub (.t 62) (.c (I 1))),
 OG 64 57 true (.iaddr (K1 7) (.t 61) (.t 63)),
 OG 65 57 true (.faddr 0 (.t 64)),
 OG 66 57 true (.load K0 (.t 65)),
 OG 67 57 true (.bin .leq (.t 59) (.t 66)),
 O 68 (.pick (.t 57) (.t 67) (.c (.b false)))] [0, 1, 3, 7, 15, 7, 39, 7, 135, 487, 999, 2023, 4095, 8191] [67, 66, 65, 64, 63, 62, 61, 60, 59, 58, 57, 56, 55]) (
 .cond (.t 68) (sq (.reg [
 O 2 (.mov (.c (I 10)))] []) (
 .ret))
 (.skip))) (
 sq (.reg [
 O 69 (.load (K1 22) (.t 1)),
 O 70 (.load (K1 7) (.t 4)),
 O 71 (.call 0 546 [(.t 69), (.t 70)]),
 O 6 (.mov (.t 71))] [71, 4, 70, 69]) (
 sq (.reg [
 O 72 (.mov (.t 6)),
 O 73 (.bin .neq (.t 72) (.c (I 0)))] [72]) (
 .cond (.t 73) (sq (.reg [
 O 74 (.mov (.t 6)),
 O 2 (.mov (.t 74))] [6, 74]) (
 .ret))
 (.skip))))))))) (
 .reg [
 O 16 (.mov (.t 3)),
 O 17 (.bin .add (.t 16) (.c (I 1))),
 O 3 (.mov (.t 17))] [17, 16]))
def F508 : PF := ⟨1, [.t 2],
 sq (.reg [
 O 1 (.box (K1 22) (.t 0)),
 O 2 (.mov (.c (I 0)))] [2, 0]) (
 sq (sq (.reg [
 O 7 (.faddr 18 (.t 1)),
 O 8 (.load K0 (.t 7)),
 O 9 (.len false (.t 8)),
 O 10 (.bin .gtr (.t 9) (.c (I 64)))] [9, 8, 7]) (
 .cond (.t 10) (sq (.reg [
 O 2 (.mov (.c (I 5)))] []) (
 .ret))
 (.skip))) (
 sq (sq (.reg [
 O 3 (.mov (.c (I 0)))] []) (
 .block 0 (
 .loop [1, 3] L508_0))) (
 sq (.reg [
 O 2 (.mov (.c (I 0)))] []) (
 .ret))))⟩
def L509_0 : PC :=
 sq (sq (.reg [
 O 8 (.mov (.t 3)),
 O 9 (.faddr 19 (.t 1)),
 O 10 (.load K0 (.t 9)),
 O 11 (.len false (.t 10)),
 O 12 (.bin .lss (.t 8) (.t 11))] [11, 10, 9, 8]) (
 .cond (.t 12) (.skip)
 (.exit 0))) (
 sq (.block 1 (
 sq (.regD [
 O 15 (.load (K1 22) (.t 1)),
 O 16 (.faddr 19 (.t 1)),
 O 17 (.load K0 (.t 16)),
 O 18 (.mov (.t 3)),
 O 19 (.iaddr (K1 10) (.t 17) (.t 18)),
 O 20 (.load (K1 10) (.t 19)),
 O 21 (.call 0 548 [(.t 15), (.t 20)]),
 O 22 (.bin .neq (.t 21) (.c (I 0)))] [0, 0, 2, 0, 14, 30, 63, 127] [21, 20, 19, 18, 17, 16, 15]) (
 .cond (.t 22) (sq (.reg [
 O 2 (.mov (.c (I 25)))] []) (
 .ret))
 (.skip)))) (
 .reg [
 O 13 (.mov (.t 3)),
 O 14 (.bin .add (.t 13) (.c (I 1))),
 O 3 (.mov (.t 14))] [14, 13]))
def F509 : PF := ⟨1, [.t 2],
 sq (.reg [
 O 1 (.box (K1 22) (.t 0)),
 O 2 (.mov (.c (I 0)))] [2, 0]) (
 sq (sq (.reg [
 O 4 (.faddr 19 (.t 1)),
 O 5 (.load K0 (.t 4)),
 O 6 (.call 0 547 [(.t 5)]),
 O 7 (.bin .neq (.t 6) (.c (I (-1))))] [6, 5, 4]) (
 .cond (.t 7) (sq (.reg [
 O 2 (.mov (.c (I 25)))] []) (
 .ret))
 (.skip))) (
 sq (sq (.reg [
 O 3 (.mov (.c (I 0)))] []) (
 .block 0 (
 .loop [1, 3] L509_0))) (
 sq (.reg [
 O 2 (.mov (.c (I 0)))] []) (
 .ret))))⟩
def L510_0 : PC :=
 sq (sq (.reg [
 O 8 (.mov (.t 3)),
 O 9 (.mov (.t 0)),
 O 10 (.len false (.t 9)),
 O 11 (.bin .lss (.t 8) (.t 10))] [10, 9, 8]) (
 .cond (.t 11) (.skip)
 (.exit 0))) (
 sq (.block 1 (
 sq (sq (.reg [
 O 14 (.mov (.t 0)),
 O 15 (.mov (.t 3)),
 O 16 (.iaddr (K1 6) (.t 14) (.t 15)),
 O 17 (.load (K1 6) (.t 16)),
 O 18 (.call 0 549 [(.t 17)]),
 O 4 (.mov (.t 18))] [18, 17, 16, 15, 14]) (
 sq (.reg [
 O 19 (.mov (.t 4)),
 O 20 (.bin .neq (.t 19) (.c (I 0)))] [19]) (
 .cond (.t 20) (sq (.reg [
 O 21 (.mov (.t 4)),
 O 2 (.mov (.t 21))] [4, 21]) (
 .ret))
 (.skip)))) (
 sq (sq (.regD [
 O 22 (.mov (.t 3)),
 O 23 (.bin .gtr (.t 22) (.c (I 0))),
 O 24 (.mov (.t 23)),
 OG 25 24 true (.mov (.t 0)),
 OG 26 24 true (.mov (.t 3)),
 OG 27 24 true (.iaddr (K1 6) (.t 25) (.t 26)),
 OG 28 24 true (.faddr 0 (.t 27)),
 OG 29 24 true (.load K0 (.t 28)),
 OG 30 24 true (.mov (.t 0)),
 OG 31 24 true (.mov (.t 3)),
 OG 32 24 true (.bin .sub (.t 31) (.c (I 1))),
 OG 33 24 true (.iaddr (K1 6) (.t 30) (.t 32)),
 OG 34 24 true (.faddr 0 (.t 33)),
 OG 35 24 true (.load K0 (.t 34)),
 OG 36 24 true (.bin .leq (.t 29) (.t 35)),
 O 37 (.pick (.t 24) (.t 36) (.c (.b false)))] [0, 1, 3, 7, 7, 31, 63, 127, 7, 7, 519, 1799, 3847, 7943, 16383, 32767] [36, 35, 34, 33, 32, 31, 30, 29, 28, 27, 26, 25, 24, 23, 22]) (
 .cond (.t 37) (sq (.reg [
 O 2 (.mov (.c (I 10)))] []) (
 .ret))
 (.skip))) (
 sq (.regD [
 O 38 (.mov (.t 0)),
 O 39 (.mov (.t 3)),
 O 40 (.sl (K1 6) (.t 38) none (some (.t 39)) none),
 O 41 (.mov (.t 0)),
 O 42 (.mov (.t 3)),
 O 43 (.iaddr (K1 6) (.t 41) (.t 42)),
 O 44 (.faddr 5 (.t 43)),
 O 45 (.load K0 (.t 44)),
 O 46 (.call 0 550 [(.t 40), (.t 45)])] [0, 0, 3, 0, 0, 24, 56, 120, 255] [45, 44, 43, 42, 41, 40, 39, 38]) (
 .cond (.t 46) (sq (.reg [
 O 2 (.mov (.c (I 12)))] []) (
 .ret))
 (.skip)))))) (
 .reg [
 O 12 (.mov (.t 3)),
 O 13 (.bin .add (.t 12) (.c (I 1))),
 O 3 (.mov (.t 13))] [13, 12]))
def F510 : PF := ⟨1, [.t 2],
 sq (.reg [
 O 2 (.mov (.c (I 0)))] [2]) (
 sq (sq (.reg [
 O 5 (.mov (.t 0)),
 O 6 (.len false (.t 5)),
 O 7 (.bin .gtr (.t 6) (.c (I 64)))] [6, 5]) (
 .cond (.t 7) (sq (.reg [
 O 2 (.mov (.c (I 5)))] []) (
 .ret))
 (.skip))) (
 sq (sq (.reg [
 O 3 (.mov (.c (I 0)))] []) (
 .block 0 (
 .loop [0, 3] L510_0))) (
 sq (.reg [
 O 2 (.mov (.c (I 0)))] []) (
 .ret))))⟩
def L511_0 : PC :=
 sq (sq (.reg [
 O 7 (.mov (.t 3)),
 O 8 (.mov (.t 0)),
 O 9 (.len false (.t 8)),
 O 10 (.bin .lss (.t 7) (.t 9))] [9, 8, 7]) (
 .cond (.t 10) (.skip)
 (.exit 0))) (
 sq (.block 1 (
 sq (sq (.reg [
 O 13 (.mov (.t 0)),
 O 14 (.mov (.t 3)),
 O 15 (.iaddr (K1 7) (.t 13) (.t 14)),
 O 16 (.load (K1 7) (.t 15)),
 O 17 (.call 0 551 [(.t 16)]),
 O 18 (.un .not (.t 17))] [17, 16, 15, 14, 13]) (
 .cond (.t 18) (sq (.reg [
 O 2 (.mov (.c (I 1)))] []) (
 .ret))
 (.skip))) (
 sq (sq (.reg [
 O 19 (.mov (.t 0)),
 O 20 (.mov (.t 3)),
 O 21 (.iaddr (K1 7) (.t 19) (.t 20)),
 O 22 (.faddr 6 (.t 21)),
 O 23 (.load K0 (.t 22)),
 O 24 (.call 0 552 [(.t 23)]),
 O 25 (.un .not (.t 24))] [24, 23, 22, 21, 20, 19]) (
 .cond (.t 25) (sq (.reg [
 O 2 (.mov (.c (I 4)))] []) (
 .ret))
 (.skip))) (
 sq (.regD [
 O 26 (.mov (.t 3)),
 O 27 (.bin .gtr (.t 26) (.c (I 0))),
 O 28 (.mov (.t 27)),
 OG 29 28 true (.mov (.t 0)),
 OG 30 28 true (.mov (.t 3)),
 OG 31 28 true (.iaddr (K1 7) (.t 29) (.t 30)),
 OG 32 28 true (.faddr 0 (.t 31)),
 OG 33 28 true (.load K0 (.t 32)),
 OG 34 28 true (.mov (.t 0)),
 OG 35 28 true (.mov (.t 3)),
 OG 36 28 true (.bin .sub (.t 35) (.c (I 1))),
 OG 37 28 true (.iaddr (K1 7) (.t 34) (.t 36)),
 OG 38 28 true (.faddr 0 (.t 37)),
 OG 39 28 true (.load K0 (.t 38)),
 OG 40 28 true (.bin .leq (.t 33) (.t 39)),
 O 41 (.pick (.t 28) (.t 40) (.c (.b false)))] [0, 1, 3, 7, 7, 31, 63, 127, 7, 7, 519, 1799, 3847, 7943, 16383, 32767] [40, 39, 38, 37, 36, 35, 34, 33, 32, 31, 30, 29, 28, 27, 26]) (
 .cond (.t 41) (sq (.reg [
 O 2 (.mov (.c (I 10)))] []) (
 .ret))
 (.skip)))))) (
 .reg [
 O 11 (.mov (.t 3)),
 O 12 (.bin .add (.t 11) (.c (I 1))),
 O 3 (.mov (.t 12))] [12, 11]))
def F511 : PF := ⟨1, [.t 2],
 sq (.reg [
 O 2 (.mov (.c (I 0)))] [2]) (
 sq (sq (.reg [
 O 4 (.mov (.t 0)),
 O 5 (.len false (.t 4)),
 O 6 (.bin .gtr (.t 5) (.c (I 64)))] [5, 4]) (
 .cond (.t 6) (sq (.reg [
 O 2 (.mov (.c (I 5)))] []) (
 .ret))
 (.skip))) (
 sq (sq (.reg [
 O 3 (.mov (.c (I 0)))] []) (
 .block 0 (
 .loop [0, 3] L511_0))) (
 sq (.reg [
 O 2 (.mov (.c (I 0)))] []) (
 .ret))))⟩
def L512_0 : PC :=
 sq (sq (.reg [
 O 22 (.mov (.t 3)),
 O 23 (.mov (.t 0)),
 O 24 (.len true (.t 23)),
 O 25 (.bin .lss (.t 22) (.t 24))] [24, 23, 22]) (
 .cond (.t 25) (.skip)
 (.exit 0))) (
 sq (.block 1 (
 sq (.reg [
 O 28 (.mov (.t 0)),
 O 29 (.mov (.t 3)),
 O 30 (.idxS (.t 28) (.t 29)),
 O 31 (.bin .lss (.t 30) (.c (.i .u8 97))),
 O 32 (.mov (.t 31)),
 OG 33 32 false (.mov (.t 0)),
 OG 34 32 false (.mov (.t 3)),
 OG 35 32 false (.idxS (.t 33) (.t 34)),
 OG 36 32 false (.bin .gtr (.t 35) (.c (.i .u8 122))),
 O 37 (.pick (.t 32) (.c (.b true)) (.t 36)),
 O 38 (.mov (.t 37)),
 OG 39 38 true (.mov (.t 0)),
 OG 40 38 true (.mov (.t 3)),
 OG 41 38 true (.idxS (.t 39) (.t 40)),
 OG 42 38 true (.bin .lss (.t 41) (.c (.i .u8 48))),
 OG 43 38 true (.mov (.t 42)),
 OG 44 43 false (.mov (.t 0)),
 OG 45 43 false (.mov (.t 3)),
 OG 46 43 false (.idxS (.t 44) (.t 45)),
 OG 47 43 false (.bin .gtr (.t 46) (.c (.i .u8 57))),
 OG 48 38 true (.pick (.t 43) (.c (.b true)) (.t 47)),
 O 49 (.pick (.t 38) (.t 48) (.c (.b false))),
 O 50 (.mov (.t 49)),
 OG 51 50 true (.mov (.t 0)),
 OG 52 50 true (.mov (.t 3)),
 OG 53 50 true (.idxS (.t 51) (.t 52)),
 OG 54 50 true (.bin .neq (.t 53) (.c (.i .u8 95))),
 O 55 (.pick (.t 50) (.t 54) (.c (.b false)))] [54, 53, 52, 51, 50, 49, 48, 47, 46, 45, 44, 43, 42, 41, 40, 39, 38, 37, 36, 35, 34, 33, 32, 31, 30, 29, 28]) (
 .cond (.t 55) (sq (.reg [
 O 2 (.mov (.c (.b false)))] []) (
 .ret))
 (.skip)))) (
 .reg [
 O 26 (.mov (.t 3)),
 O 27 (.bin .add (.t 26) (.c (I 1))),
 O 3 (.mov (.t 27))] [27, 26]))
def F512 : PF := ⟨1, [.t 2],
 sq (.reg [
 O 2 (.mov (.c (.b false)))] [2]) (
 sq (sq (.reg [
 O 4 (.mov (.t 0)),
 O 5 (.len true (.t 4)),
 O 6 (.bin .lss (.t 5) (.c (I 1))),
 O 7 (.mov (.t 6)),
 OG 8 7 false (.mov (.t 0)),
 OG 9 7 false (.len true (.t 8)),
 OG 10 7 false (.bin .gtr (.t 9) (.c (I 16))),
 O 11 (.pick (.t 7) (.c (.b true)) (.t 10)),
 O 12 (.mov (.t 11)),
 OG 13 12 false (.mov (.t 0)),
 OG 14 12 false (.idxS (.t 13) (.c (I 0))),
 OG 15 12 false (.bin .lss (.t 14) (.c (.i .u8 97))),
 O 16 (.pick (.t 12) (.c (.b true)) (.t 15)),
 O 17 (.mov (.t 16)),
 OG 18 17 false (.mov (.t 0)),
 OG 19 17 false (.idxS (.t 18) (.c (I 0))),
 OG 20 17 false (.bin .gtr (.t 19) (.c (.i .u8 122))),
 O 21 (.pick (.t 17) (.c (.b true)) (.t 20))] [20, 19, 18, 17, 16, 15, 14, 13, 12, 11, 10, 9, 8, 7, 6, 5, 4]) (
 .cond (.t 21) (sq (.reg [
 O 2 (.mov (.c (.b false)))] []) (
 .ret))
 (.skip))) (
 sq (sq (.reg [
 O 3 (.mov (.c (I 0)))] []) (
 .block 0 (
 .loop [0, 3] L512_0))) (
 sq (.reg [
 O 2 (.mov (.c (.b true)))] []) (
 .ret))))⟩
def L513_0 : PC :=
 sq (sq (.reg [
 O 7 (.mov (.t 6)),
 O 8 (.mov (.t 0)),
 O 9 (.len false (.t 8)),
 O 10 (.bin .lss (.t 7) (.t 9))] [9, 8, 7]) (
 .cond (.t 10) (.skip)
 (.exit 0))) (
 sq (.block 1 (
 sq (.reg [
 O 13 (.mov (.t 0)),
 O 14 (.mov (.t 6)),
 O 15 (.iaddr (K1 3) (.t 13) (.t 14)),
 O 16 (.faddr 0 (.t 15)),
 O 17 (.load K0 (.t 16)),
 O 18 (.mov (.t 1)),
 O 19 (.bin .eql (.t 17) (.t 18))] [18, 17, 16, 15, 14, 13]) (
 .cond (.t 19) (sq (.reg [
 O 20 (.mov (.t 0)),
 O 21 (.mov (.t 6)),
 O 22 (.iaddr (K1 3) (.t 20) (.t 21)),
 O 23 (.load (K1 3) (.t 22)),
 E (.store (K1 3) (.t 4) (.t 23)),
 O 5 (.mov (.c (.b true)))] [23, 22, 6, 21, 0, 20]) (
 .ret))
 (.skip)))) (
 .reg [
 O 11 (.mov (.t 6)),
 O 12 (.bin .add (.t 11) (.c (I 1))),
 O 6 (.mov (.t 12))] [12, 11]))
def F513 : PF := ⟨2, [.c 4 (K1 3), .t 5],
 sq (.reg [
 O 4 (.alloc (K1 3) (.a [(.s []), (.l K0 [] true), (.l K0 [] true)])),
 O 5 (.mov (.c (.b false)))] [5]) (
 sq (sq (.reg [
 O 6 (.mov (.c (I 0)))] []) (
 .block 0 (
 .loop [0, 1, 4, 6] L513_0))) (
 sq (.reg [
 O 24 (.agg [(.s []), (.l K0 [] true), (.l K0 [] true)] []),
 E (.store (K1 3) (.t 4) (.t 24)),
 O 5 (.mov (.c (.b false)))] [24]) (
 .ret)))⟩
def F514 : PF := ⟨2, [.t 4],
 sq (.reg [
 O 2 (.box (K1 3) (.t 0)),
 O 4 (.mov (.c (.b false)))] [4, 0]) (
 sq (.regD [
 O 5 (.mov (.t 1)),
 O 6 (.call 0 544 [(.t 5)]),
 O 7 (.mov (.t 6)),
 OG 8 7 true (.faddr 1 (.t 2)),
 OG 9 7 true (.load K0 (.t 8)),
 OG 10 7 true (.mov (.t 1)),
 OG 11 7 true (.call 0 554 [(.t 10)]),
 OG 12 7 true (.call 0 553 [(.t 9), (.t 11)]),
 OG 13 7 true (.un .not (.t 12)),
 O 14 (.pick (.t 7) (.t 13) (.c (.b false))),
 O 15 (.mov (.t 14)),
 OG 16 15 true (.faddr 2 (.t 2)),
 OG 17 15 true (.load K0 (.t 16)),
 OG 18 15 true (.mov (.t 1)),
 OG 19 15 true (.call 0 553 [(.t 17), (.t 18)]),
 OG 20 15 true (.un .not (.t 19)),
 O 21 (.pick (.t 15) (.t 20) (.c (.b false))),
 O 4 (.mov (.t 21))] [0, 1, 3, 7, 15, 7, 39, 127, 255, 511, 1023, 2047, 4095, 2047, 16383, 32767, 65535, 131071] [21, 20, 19, 18, 17, 16, 15, 14, 13, 12, 11, 10, 9, 2, 8, 7, 6, 1, 5]) (
 .ret))⟩
def L515_0 : PC :=
 sq (sq (.reg [
 O 6 (.mov (.t 5)),
 O 7 (.faddr 19 (.t 2)),
 O 8 (.load K0 (.t 7)),
 O 9 (.len false (.t 8)),
 O 10 (.bin .lss (.t 6) (.t 9))] [9, 8, 7, 6]) (
 .cond (.t 10) (.skip)
 (.exit 0))) (
 sq (.block 1 (
 sq (.reg [
 O 13 (.faddr 19 (.t 2)),
 O 14 (.load K0 (.t 13)),
 O 15 (.mov (.t 5)),
 O 16 (.iaddr (K1 10) (.t 14) (.t 15)),
 O 17 (.faddr 1 (.t 16)),
 O 18 (.load K0 (.t 17)),
 O 19 (.mov (.t 1)),
 O 20 (.bin .gtr (.t 18) (.t 19))] [19, 18, 17, 16, 15, 14, 13]) (
 .cond (.t 20) (sq (.reg [
 O 4 (.mov (.c (.b true)))] []) (
 .ret))
 (.skip)))) (
 .reg [
 O 11 (.mov (.t 5)),
 O 12 (.bin .add (.t 11) (.c (I 1))),
 O 5 (.mov (.t 12))] [12, 11]))
def F515 : PF := ⟨2, [.t 4],
 sq (.reg [
 O 2 (.box (K1 22) (.t 0)),
 O 4 (.mov (.c (.b false)))] [4, 0]) (
 sq (sq (.reg [
 O 5 (.mov (.c (I 0)))] []) (
 .block 0 (
 .loop [1, 2, 5] L515_0))) (
 sq (.reg [
 O 4 (.mov (.c (.b false)))] []) (
 .ret)))⟩
def F517 : PF := ⟨1, [.t 2],
 sq (.reg [
 O 2 (.mov (.c (.s [])))] [2]) (
 sq (sq (.reg [
 O 3 (.mov (.t 0)),
 O 4 (.bin .lss (.t 3) (.c (I 0)))] [3]) (
 .cond (.t 4) (sq (sq (.reg [
 O 5 (.mov (.t 0)),
 O 6 (.bin .gtr (.t 5) (.c (I (-10))))] [5]) (
 .cond (.t 6) (sq (.reg [
 O 7 (.mov (.t 0)),
 O 8 (.un .neg (.t 7)),
 O 9 (.call 0 517 [(.t 8)]),
 O 10 (.bin .add (.c (.s [45])) (.t 9)),
 O 2 (.mov (.t 10))] [10, 9, 8, 0, 7]) (
 .ret))
 (.skip))) (
 sq (.reg [
 O 11 (.mov (.t 0)),
 O 12 (.bin .quo (.t 11) (.c (I 10))),
 O 13 (.call 0 517 [(.t 12)]),
 O 14 (.mov (.t 0)),
 O 15 (.bin .rem (.t 14) (.c (I 10))),
 O 16 (.un .neg (.t 15)),
 O 17 (.call 0 517 [(.t 16)]),
 O 18 (.bin .add (.t 13) (.t 17)),
 O 2 (.mov (.t 18))] [18, 17, 16, 15, 14, 13, 12, 0, 11]) (
 .ret)))
 (.skip))) (
 sq (sq (.reg [
 O 19 (.mov (.t 0)),
 O 20 (.bin .lss (.t 19) (.c (I 10)))] [19]) (
 .cond (.t 20) (sq (.reg [
 O 21 (.mov (.t 0)),
 O 22 (.mov (.t 0)),
 O 23 (.bin .add (.t 22) (.c (I 1))),
 O 24 (.slS (.c (.s [48, 49, 50, 51, 52, 53, 54, 55, 56, 57])) (some (.t 21)) (some (.t 23))),
 O 2 (.mov (.t 24))] [24, 23, 22, 0, 21]) (
 .ret))
 (.skip))) (
 sq (.reg [
 O 25 (.mov (.t 0)),
 O 26 (.bin .quo (.t 25) (.c (I 10))),
 O 27 (.call 0 517 [(.t 26)]),
 O 28 (.mov (.t 0)),
 O 29 (.bin .rem (.t 28) (.c (I 10))),
 O 30 (.call 0 517 [(.t 29)]),
 O 31 (.bin .add (.t 27) (.t 30)),
 O 2 (.mov (.t 31))] [31, 30, 29, 28, 27, 26, 0, 25]) (
 .ret))))⟩
def F522 : PF := ⟨2, [.t 3],
 sq (.reg [
 O 2 (.box (K1 10) (.t 0)),
 O 3 (.mov (.c (.b false)))] [3, 0]) (
 sq (.reg [
 O 4 (.faddr 6 (.t 2)),
 O 5 (.load K0 (.t 4)),
 O 6 (.load K0 (.t 1)),
 O 7 (.bin .eql (.t 5) (.t 6)),
 O 3 (.mov (.t 7))] [7, 1, 6, 5, 2, 4]) (
 .ret))⟩
def L528_0 : PC :=
 sq (sq (.reg [
 O 13 (.mov (.t 6)),
 O 14 (.bin .gtr (.t 13) (.c (I 0))),
 O 15 (.mov (.t 14)),
 OG 16 15 true (.mov (.t 5)),
 OG 17 15 true (.faddr 3 (.t 2)),
 OG 18 15 true (.faddr 19 (.t 17)),
 OG 19 15 true (.load K0 (.t 18)),
 OG 20 15 true (.mov (.t 6)),
 OG 21 15 true (.bin .sub (.t 20) (.c (I 1))),
 OG 22 15 true (.iaddr (K1 10) (.t 19) (.t 21)),
 OG 23 15 true (.load (K1 10) (.t 22)),
 OG 24 15 true (.callv (.t 16) [(.t 23)]),
 O 25 (.pick (.t 15) (.t 24) (.c (.b false)))] [24, 23, 22, 21, 20, 19, 18, 17, 16, 15, 14, 13]) (
 .cond (.t 25) (.skip)
 (.exit 0))) (
 .block 1 (
 .reg [
 O 26 (.mov (.t 6)),
 O 27 (.bin .sub (.t 26) (.c (I 1))),
 O 6 (.mov (.t 27))] [27, 26]))
def F528 : PF := ⟨2, [.c 4 (K1 22)],
 sq (.reg [
 O 2 (.box (K1 42) (.t 0)),
 O 3 (.box (K1 2) (.t 1)),
 O 4 (.alloc (K1 22) (.a [(.l (K1 2) [] true), (.l (K1 3) [] true), (.l (K1 4) [] true), (I 0), (I 0), (I 0), (I 0), (I 0), (I 0), (I 0), (I 0), (I 0), (I 0), (I 0), (I 0), (I 0), (I 0), (.l (K1 19) [] true), (.l (K1 7) [] true), (.l (K1 10) [] true), (.l (K1 6) [] true), (.l (K1 7) [] true)]))] [1, 0]) (
 sq (.reg [
 O 8 (.mkf 560 [(.t 3), (.t 2)]),
 O 5 (.mov (.t 8))] [3, 8]) (
 sq (.reg [
 O 9 (.faddr 3 (.t 2)),
 O 10 (.faddr 19 (.t 9)),
 O 11 (.load K0 (.t 10)),
 O 12 (.len false (.t 11)),
 O 6 (.mov (.t 12))] [12, 11, 10, 9]) (
 sq (.block 0 (
 .loop [2, 4, 5, 6] L528_0)) (
 sq (.reg [
 O 28 (.faddr 3 (.t 2)),
 O 29 (.load (K1 22) (.t 28)),
 O 7 (.alloc (K1 22) (.a [(.l (K1 2) [] true), (.l (K1 3) [] true), (.l (K1 4) [] true), (I 0), (I 0), (I 0), (I 0), (I 0), (I 0), (I 0), (I 0), (I 0), (I 0), (I 0), (I 0), (I 0), (I 0), (.l (K1 19) [] true), (.l (K1 7) [] true), (.l (K1 10) [] true), (.l (K1 6) [] true), (.l (K1 7) [] true)])),
 E (.store (K1 22) (.t 7) (.t 29))] [29, 2, 28]) (
 sq (.reg [
 O 30 (.faddr 19 (.t 7)),
 O 31 (.load K0 (.t 30)),
 O 32 (.mov (.t 6)),
 O 33 (.sl (K1 10) (.t 31) none (some (.t 32)) none),
 O 34 (.faddr 19 (.t 7)),
 E (.store K0 (.t 34) (.t 33))] [34, 33, 6, 32, 31, 30]) (
 sq (.reg [
 O 35 (.load (K1 22) (.t 7)),
 O 36 (.call 0 146 [(.t 35)]),
 E (.store (K1 22) (.t 4) (.t 36))] [36, 7, 35]) (
 .ret)))))))⟩
def F531 : PF := ⟨3, [.c 6 (K1 42), .t 7],
 sq (.reg [
 O 3 (.box (K1 42) (.t 0)),
 O 4 (.box (K1 2) (.t 1)),
 O 6 (.alloc (K1 42) (.a [(I 0), (I 0), (.s []), (.l (K1 2) [] true), (.l (K1 3) [] true), (.l (K1 4) [] true), (I 0), (I 0), (I 0), (I 0), (I 0), (I 0), (I 0), (I 0), (I 0), (I 0), (I 0), (I 0), (I 0), (I 0), (.l (K1 19) [] true), (.l (K1 7) [] true), (.l (K1 10) [] true), (.l (K1 6) [] true), (.l (K1 7) [] true), (.l (K1 11) [] true), (.l (K1 25) [] true), (.l (K1 10) [] true), (.l (K1 7) [] true), (.l (K1 9) [] true), (.l (K1 7) [] true), (.l (K1 7) [] true), (.l (K1 3) [] true), (.l (K1 35) [] true), (.l (K1 5) [] true), (.b false), (I 0), (I 0), (I 0), (I 0), (.l (K1 3) [] true), (.l (K1 3) [] true)])),
 O 7 (.mov (.c (I 0)))] [7, 1, 0]) (
 sq (.reg [
 O 12 (.load (K1 42) (.t 3)),
 O 13 (.load (K1 2) (.t 4)),
 O 14 (.call 0 567 [(.t 12), (.t 13)]),
 O 11 (.mov (.t 14)),
 O 15 (.ext (.t 11) 0),
 O 16 (.ext (.t 11) 1),
 O 8 (.alloc (K1 70) (.a [(I 0), (I 0), (.s []), (.l (K1 2) [] true), (.l (K1 3) [] true), (.l (K1 4) [] true), (I 0), (I 0), (I 0), (I 0), (I 0), (I 0), (I 0), (I 0), (I 0), (I 0), (I 0), (I 0), (I 0), (I 0), (.l (K1 19) [] true), (.l (K1 7) [] true), (.l (K1 10) [] true), (.l (K1 6) [] true), (.l (K1 7) [] true), (.l (K1 11) [] true), (.l (K1 25) [] true), (.l (K1 10) [] true), (.l (K1 7) [] true), (.l (K1 9) [] true), (.l (K1 7) [] true), (.l (K1 7) [] true), (.l (K1 3) [] true), (.l (K1 35) [] true), (.l (K1 5) [] true), (.b false), (I 0), (I 0), (I 0), (I 0), (.l (K1 3) [] true), (.l (K1 3) [] true), (I 0), (I 0), (.l (K1 2) [] true), (.l (K1 3) [] true), (.l (K1 4) [] true), (I 0), (I 0), (I 0), (I 0), (I 0), (I 0), (I 0), (I 0), (I 0), (I 0), (I 0), (I 0), (I 0), (I 0), (.l (K1 19) [] true), (.l (K1 7) [] true), (.l (K1 10) [] true), (.l (K1 6) [] true), (.l (K1 7) [] true), (.s []), (.l K0 [] true), (.l K0 [] true), (I 0)])),
 E (.store (K1 70) (.t 8) (.t 15)),
 O 9 (.mov (.t 16))] [16, 15, 11, 14, 13, 12]) (
 sq (sq (.reg [
 O 17 (.mov (.t 9)),
 O 18 (.un .not (.t 17)),
 O 19 (.mov (.t 18)),
 OG 20 19 false (.load (K1 70) (.t 8)),
 OG 21 19 false (.call 0 568 [(.t 20)]),
 OG 22 19 false (.len false (.t 21)),
 OG 23 19 false (.mov (.t 2)),
 OG 24 19 false (.len false (.t 23)),
 OG 25 19 false (.bin .neq (.t 22) (.t 24)),
 O 26 (.pick (.t 19) (.c (.b true)) (.t 25))] [25, 24, 23, 22, 21, 20, 19, 18, 9, 17]) (
 .cond (.t 26) (sq (.reg [
 O 27 (.agg [(I 0), (I 0), (.s []), (.l (K1 2) [] true), (.l (K1 3) [] true), (.l (K1 4) [] true), (I 0), (I 0), (I 0), (I 0), (I 0), (I 0), (I 0), (I 0), (I 0), (I 0), (I 0), (I 0), (I 0), (I 0), (.l (K1 19) [] true), (.l (K1 7) [] true), (.l (K1 10) [] true), (.l (K1 6) [] true), (.l (K1 7) [] true), (.l (K1 11) [] true), (.l (K1 25) [] true), (.l (K1 10) [] true), (.l (K1 7) [] true), (.l (K1 9) [] true), (.l (K1 7) [] true), (.l (K1 7) [] true), (.l (K1 3) [] true), (.l (K1 35) [] true), (.l (K1 5) [] true), (.b false), (I 0), (I 0), (I 0), (I 0), (.l (K1 3) [] true), (.l (K1 3) [] true)] []),
 E (.store (K1 42) (.t 6) (.t 27)),
 O 7 (.mov (.c (I 1)))] [27]) (
 .ret))
 (.skip))) (
 sq (.regD [
 O 28 (.load (K1 70) (.t 8)),
 O 29 (.load (K1 42) (.t 3)),
 O 30 (.call 0 100 [(.t 29)]),
 O 31 (.mov (.t 2)),
 O 32 (.call 0 569 [(.t 28), (.t 30), (.t 31)]),
 O 10 (.alloc (K1 42) (.a [(I 0), (I 0), (.s []), (.l (K1 2) [] true), (.l (K1 3) [] true), (.l (K1 4) [] true), (I 0), (I 0), (I 0), (I 0), (I 0), (I 0), (I 0), (I 0), (I 0), (I 0), (I 0), (I 0), (I 0), (I 0), (.l (K1 19) [] true), (.l (K1 7) [] true), (.l (K1 10) [] true), (.l (K1 6) [] true), (.l (K1 7) [] true), (.l (K1 11) [] true), (.l (K1 25) [] true), (.l (K1 10) [] true), (.l (K1 7) [] true), (.l (K1 9) [] true), (.l (K1 7) [] true), (.l (K1 7) [] true), (.l (K1 3) [] true), (.l (K1 35) [] true), (.l (K1 5) [] true), (.b false), (I 0), (I 0), (I 0), (I 0), (.l (K1 3) [] true), (.l (K1 3) [] true)])),
 E (.store (K1 42) (.t 10) (.t 32))] [0, 0, 2, 0, 15, 0, 63] [32, 2, 31, 30, 3, 29, 28]) (
 sq (.reg [
 O 33 (.faddr 35 (.t 10)),
 O 34 (.faddr 1 (.t 33)),
 O 35 (.load K0 (.t 34)),
 O 36 (.bin .add (.t 35) (.c (I 1))),
 O 37 (.faddr 35 (.t 10)),
 O 38 (.faddr 1 (.t 37)),
 E (.store K0 (.t 38) (.t 36))] [38, 37, 36, 35, 34, 33]) (
 sq (sq (.reg [
 O 39 (.faddr 0 (.t 4)),
 O 40 (.load K0 (.t 39)),
 O 41 (.bin .eql (.t 40) (.c (I 9)))] [40, 4, 39]) (
 .cond (.t 41) (.reg [
 O 42 (.faddr 69 (.t 8)),
 O 43 (.load K0 (.t 42)),
 O 44 (.agg [(.b false), (I 0), (I 0), (I 0)] []),
 O 45 (.agg [(I 0), (.l (K1 3) [] true), (.l (K1 3) [] true)] []),
 O 46 (.faddr 0 (.t 10)),
 E (.store K0 (.t 46) (.t 43)),
 O 47 (.faddr 35 (.t 10)),
 E (.store (K1 4) (.t 47) (.t 44)),
 O 48 (.faddr 39 (.t 10)),
 E (.store (K1 3) (.t 48) (.t 45))] [48, 47, 46, 45, 44, 43, 8, 42])
 (.skip))) (
 sq (.reg [
 O 49 (.load (K1 42) (.t 10)),
 E (.store (K1 42) (.t 6) (.t 49)),
 O 7 (.mov (.c (I 0)))] [10, 49]) (
 .ret)))))))⟩
def L537_0 : PC :=
 sq (sq (.reg [
 O 7 (.mov (.t 3)),
 O 8 (.bin .lss (.t 7) (.c (I 3)))] [7]) (
 .cond (.t 8) (.skip)
 (.exit 0))) (
 sq (.block 1 (
 sq (.reg [
 O 11 (.mov (.t 0)),
 O 12 (.mov (.t 3)),
 O 13 (.idxS (.t 11) (.t 12)),
 O 14 (.bin .lss (.t 13) (.c (.i .u8 65))),
 O 15 (.mov (.t 14)),
 OG 16 15 false (.mov (.t 0)),
 OG 17 15 false (.mov (.t 3)),
 OG 18 15 false (.idxS (.t 16) (.t 17)),
 OG 19 15 false (.bin .gtr (.t 18) (.c (.i .u8 90))),
 O 20 (.pick (.t 15) (.c (.b true)) (.t 19))] [19, 18, 17, 16, 15, 14, 13, 12, 11]) (
 .cond (.t 20) (sq (.reg [
 O 2 (.mov (.c (.b false)))] []) (
 .ret))
 (.skip)))) (
 .reg [
 O 9 (.mov (.t 3)),
 O 10 (.bin .add (.t 9) (.c (I 1))),
 O 3 (.mov (.t 10))] [10, 9]))
def F537 : PF := ⟨1, [.t 2],
 sq (.reg [
 O 2 (.mov (.c (.b false)))] [2]) (
 sq (sq (.reg [
 O 4 (.mov (.t 0)),
 O 5 (.len true (.t 4)),
 O 6 (.bin .neq (.t 5) (.c (I 3)))] [5, 4]) (
 .cond (.t 6) (sq (.reg [
 O 2 (.mov (.c (.b false)))] []) (
 .ret))
 (.skip))) (
 sq (sq (.reg [
 O 3 (.mov (.c (I 0)))] []) (
 .block 0 (
 .loop [0, 3] L537_0))) (
 sq (.reg [
 O 2 (.mov (.c (.b true)))] []) (
 .ret))))⟩
def L538_0 : PC :=
 sq (sq (.reg [
 O 9 (.mov (.t 3)),
 O 10 (.faddr 1 (.t 1)),
 O 11 (.load K0 (.t 10)),
 O 12 (.len false (.t 11)),
 O 13 (.bin .lss (.t 9) (.t 12))] [12, 11, 10, 9]) (
 .cond (.t 13) (.skip)
 (.exit 0))) (
 sq (.block 1 (
 sq (.reg [
 O 16 (.faddr 1 (.t 1)),
 O 17 (.load K0 (.t 16)),
 O 18 (.mov (.t 3)),
 O 19 (.iaddr K0 (.t 17) (.t 18)),
 O 20 (.load K0 (.t 19)),
 O 21 (.bin .lss (.t 20) (.c (I 0))),
 O 22 (.mov (.t 21)),
 OG 23 22 false (.faddr 1 (.t 1)),
 OG 24 22 false (.load K0 (.t 23)),
 OG 25 22 false (.mov (.t 3)),
 OG 26 22 false (.iaddr K0 (.t 24) (.t 25)),
 OG 27 22 false (.load K0 (.t 26)),
 OG 28 22 false (.bin .gtr (.t 27) (.c (I 6))),
 O 29 (.pick (.t 22) (.c (.b true)) (.t 28))] [28, 27, 26, 25, 24, 23, 22, 21, 20, 19, 18, 17, 16]) (
 .cond (.t 29) (sq (.reg [
 O 2 (.mov (.c (I 1)))] []) (
 .ret))
 (.skip)))) (
 .reg [
 O 14 (.mov (.t 3)),
 O 15 (.bin .add (.t 14) (.c (I 1))),
 O 3 (.mov (.t 15))] [15, 14]))
def L538_1 : PC :=
 sq (sq (.reg [
 O 44 (.mov (.t 4)),
 O 45 (.faddr 2 (.t 1)),
 O 46 (.load K0 (.t 45)),
 O 47 (.len false (.t 46)),
 O 48 (.bin .lss (.t 44) (.t 47))] [47, 46, 45, 44]) (
 .cond (.t 48) (.skip)
 (.exit 2))) (
 sq (.block 3 (
 sq (.reg [
 O 51 (.faddr 2 (.t 1)),
 O 52 (.load K0 (.t 51)),
 O 53 (.mov (.t 4)),
 O 54 (.iaddr K0 (.t 52) (.t 53)),
 O 55 (.load K0 (.t 54)),
 O 56 (.call 0 544 [(.t 55)]),
 O 57 (.un .not (.t 56))] [56, 55, 54, 53, 52, 51]) (
 .cond (.t 57) (sq (.reg [
 O 2 (.mov (.c (I 1)))] []) (
 .ret))
 (.skip)))) (
 .reg [
 O 49 (.mov (.t 4)),
 O 50 (.bin .add (.t 49) (.c (I 1))),
 O 4 (.mov (.t 50))] [50, 49]))
def F538 : PF := ⟨1, [.t 2],
 sq (.reg [
 O 1 (.box (K1 3) (.t 0)),
 O 2 (.mov (.c (I 0)))] [2, 0]) (
 sq (sq (.reg [
 O 5 (.faddr 0 (.t 1)),
 O 6 (.load K0 (.t 5)),
 O 7 (.call 0 552 [(.t 6)]),
 O 8 (.un .not (.t 7))] [7, 6, 5]) (
 .cond (.t 8) (sq (.reg [
 O 2 (.mov (.c (I 4)))] []) (
 .ret))
 (.skip))) (
 sq (sq (.reg [
 O 3 (.mov (.c (I 0)))] []) (
 .block 0 (
 .loop [1, 3] L538_0))) (
 sq (sq (.reg [
 O 30 (.faddr 1 (.t 1)),
 O 31 (.load K0 (.t 30)),
 O 32 (.len false (.t 31)),
 O 33 (.bin .gtr (.t 32) (.c (I 6))),
 O 34 (.mov (.t 33)),
 OG 35 34 false (.faddr 1 (.t 1)),
 OG 36 34 false (.load K0 (.t 35)),
 OG 37 34 false (.call 0 595 [(.t 36)]),
 OG 38 34 false (.un .not (.t 37)),
 O 39 (.pick (.t 34) (.c (.b true)) (.t 38))] [38, 37, 36, 35, 34, 33, 32, 31, 30]) (
 .cond (.t 39) (sq (.reg [
 O 2 (.mov (.c (I 1)))] []) (
 .ret))
 (.skip))) (
 sq (sq (.reg [
 O 40 (.faddr 2 (.t 1)),
 O 41 (.load K0 (.t 40)),
 O 42 (.len false (.t 41)),
 O 43 (.bin .gtr (.t 42) (.c (I 400)))] [42, 41, 40]) (
 .cond (.t 43) (sq (.reg [
 O 2 (.mov (.c (I 5)))] []) (
 .ret))
 (.skip))) (
 sq (sq (.reg [
 O 4 (.mov (.c (I 0)))] []) (
 .block 2 (
 .loop [1, 4] L538_1))) (
 sq (sq (.reg [
 O 58 (.faddr 2 (.t 1)),
 O 59 (.load K0 (.t 58)),
 O 60 (.call 0 595 [(.t 59)]),
 O 61 (.un .not (.t 60))] [60, 59, 1, 58]) (
 .cond (.t 61) (sq (.reg [
 O 2 (.mov (.c (I 10)))] []) (
 .ret))
 (.skip))) (
 sq (.reg [
 O 2 (.mov (.c (I 0)))] []) (
 .ret))))))))⟩
def L539_0 : PC :=
 sq (sq (.reg [
 O 21 (.mov (.t 3)),
 O 22 (.mov (.t 0)),
 O 23 (.len true (.t 22)),
 O 24 (.bin .lss (.t 21) (.t 23))] [23, 22, 21]) (
 .cond (.t 24) (.skip)
 (.exit 0))) (
 sq (.block 1 (
 sq (.reg [
 O 27 (.mov (.t 0)),
 O 28 (.mov (.t 3)),
 O 29 (.idxS (.t 27) (.t 28)),
 O 30 (.bin .lss (.t 29) (.c (.i .u8 97))),
 O 31 (.mov (.t 30)),
 OG 32 31 false (.mov (.t 0)),
 OG 33 31 false (.mov (.t 3)),
 OG 34 31 false (.idxS (.t 32) (.t 33)),
 OG 35 31 false (.bin .gtr (.t 34) (.c (.i .u8 122))),
 O 36 (.pick (.t 31) (.c (.b true)) (.t 35)),
 O 37 (.mov (.t 36)),
 OG 38 37 true (.mov (.t 0)),
 OG 39 37 true (.mov (.t 3)),
 OG 40 37 true (.idxS (.t 38) (.t 39)),
 OG 41 37 true (.bin .lss (.t 40) (.c (.i .u8 48))),
 OG 42 37 true (.mov (.t 41)),
 OG 43 42 false (.mov (.t 0)),
 OG 44 42 false (.mov (.t 3)),
 OG 45 42 false (.idxS (.t 43) (.t 44)),
 OG 46 42 false (.bin .gtr (.t 45) (.c (.i .u8 57))),
 OG 47 37 true (.pick (.t 42) (.c (.b true)) (.t 46)),
 O 48 (.pick (.t 37) (.t 47) (.c (.b false))),
 O 49 (.mov (.t 48)),
 OG 50 49 true (.mov (.t 0)),
 OG 51 49 true (.mov (.t 3)),
 OG 52 49 true (.idxS (.t 50) (.t 51)),
 OG 53 49 true (.bin .neq (.t 52) (.c (.i .u8 95))),
 O 54 (.pick (.t 49) (.t 53) (.c (.b false)))] [53, 52, 51, 50, 49, 48, 47, 46, 45, 44, 43, 42, 41, 40, 39, 38, 37, 36, 35, 34, 33, 32, 31, 30, 29, 28, 27]) (
 .cond (.t 54) (sq (.reg [
 O 2 (.mov (.c (.b false)))] []) (
 .ret))
 (.skip)))) (
 .reg [
 O 25 (.mov (.t 3)),
 O 26 (.bin .add (.t 25) (.c (I 1))),
 O 3 (.mov (.t 26))] [26, 25]))
def F539 : PF := ⟨1, [.t 2],
 sq (.reg [
 O 2 (.mov (.c (.b false)))] [2]) (
 sq (sq (.reg [
 O 4 (.mov (.t 0)),
 O 5 (.bin .eql (.t 4) (.c (.s []))),
 O 6 (.mov (.t 5)),
 OG 7 6 false (.mov (.t 0)),
 OG 8 6 false (.len true (.t 7)),
 OG 9 6 false (.bin .gtr (.t 8) (.c (I 16))),
 O 10 (.pick (.t 6) (.c (.b true)) (.t 9)),
 O 11 (.mov (.t 10)),
 OG 12 11 false (.mov (.t 0)),
 OG 13 11 false (.idxS (.t 12) (.c (I 0))),
 OG 14 11 false (.bin .lss (.t 13) (.c (.i .u8 97))),
 O 15 (.pick (.t 11) (.c (.b true)) (.t 14)),
 O 16 (.mov (.t 15)),
 OG 17 16 false (.mov (.t 0)),
 OG 18 16 false (.idxS (.t 17) (.c (I 0))),
 OG 19 16 false (.bin .gtr (.t 18) (.c (.i .u8 122))),
 O 20 (.pick (.t 16) (.c (.b true)) (.t 19))] [19, 18, 17, 16, 15, 14, 13, 12, 11, 10, 9, 8, 7, 6, 5, 4]) (
 .cond (.t 20) (sq (.reg [
 O 2 (.mov (.c (.b false)))] []) (
 .ret))
 (.skip))) (
 sq (sq (.reg [
 O 3 (.mov (.c (I 1)))] []) (
 .block 0 (
 .loop [0, 3] L539_0))) (
 sq (.reg [
 O 2 (.mov (.c (.b true)))] []) (
 .ret))))⟩
def L540_0 : PC :=
 sq (sq (.reg [
 O 7 (.mov (.t 6)),
 O 8 (.mov (.t 0)),
 O 9 (.len false (.t 8)),
 O 10 (.bin .lss (.t 7) (.t 9))] [9, 8, 7]) (
 .cond (.t 10) (.skip)
 (.exit 0))) (
 sq (.block 1 (
 sq (.reg [
 O 13 (.mov (.t 0)),
 O 14 (.mov (.t 6)),
 O 15 (.iaddr (K1 4) (.t 13) (.t 14)),
 O 16 (.faddr 0 (.t 15)),
 O 17 (.load K0 (.t 16)),
 O 18 (.mov (.t 1)),
 O 19 (.bin .eql (.t 17) (.t 18))] [18, 17, 16, 15, 14, 13]) (
 .cond (.t 19) (sq (.reg [
 O 20 (.mov (.t 0)),
 O 21 (.mov (.t 6)),
 O 22 (.iaddr (K1 4) (.t 20) (.t 21)),
 O 23 (.load (K1 4) (.t 22)),
 E (.store (K1 4) (.t 4) (.t 23)),
 O 5 (.mov (.c (.b true)))] [23, 22, 6, 21, 0, 20]) (
 .ret))
 (.skip)))) (
 .reg [
 O 11 (.mov (.t 6)),
 O 12 (.bin .add (.t 11) (.c (I 1))),
 O 6 (.mov (.t 12))] [12, 11]))
def F540 : PF := ⟨2, [.c 4 (K1 4), .t 5],
 sq (.reg [
 O 4 (.alloc (K1 4) (.a [(I 0), (I 0), (I 0), (.s [])])),
 O 5 (.mov (.c (.b false)))] [5]) (
 sq (sq (.reg [
 O 6 (.mov (.c (I 0)))] []) (
 .block 0 (
 .loop [0, 1, 4, 6] L540_0))) (
 sq (.reg [
 O 24 (.agg [(I 0), (I 0), (I 0), (.s [])] []),
 E (.store (K1 4) (.t 4) (.t 24)),
 O 5 (.mov (.c (.b false)))] [24]) (
 .ret)))⟩
def F541 : PF := ⟨3, [.t 6],
 sq (.reg [
 O 6 (.mov (.c (I 0)))] [6]) (
 sq (.reg [
 O 10 (.mov (.t 0)),
 O 11 (.mov (.t 1)),
 O 12 (.call 0 540 [(.t 10), (.t 11)]),
 O 9 (.mov (.t 12)),
 O 13 (.ext (.t 9) 0),
 O 14 (.ext (.t 9) 1),
 O 7 (.alloc (K1 4) (.a [(I 0), (I 0), (I 0), (.s [])])),
 E (.store (K1 4) (.t 7) (.t 13)),
 O 8 (.mov (.t 14))] [14, 13, 9, 12, 11, 10]) (
 sq (sq (.reg [
 O 15 (.mov (.t 8)),
 O 16 (.un .not (.t 15)),
 O 17 (.mov (.t 16)),
 OG 18 17 false (.mov (.t 0)),
 OG 19 17 false (.mov (.t 1)),
 OG 20 17 false (.call 0 596 [(.t 18), (.t 19)]),
 O 21 (.pick (.t 17) (.c (.b true)) (.t 20))] [20, 1, 19, 0, 18, 17, 16, 8, 15]) (
 .cond (.t 21) (sq (.reg [
 O 6 (.mov (.c (I 11)))] []) (
 .ret))
 (.skip))) (
 sq (sq (.reg [
 O 22 (.faddr 2 (.t 7)),
 O 23 (.load K0 (.t 22)),
 O 24 (.mov (.t 2)),
 O 25 (.bin .neq (.t 23) (.t 24))] [2, 24, 23, 7, 22]) (
 .cond (.t 25) (sq (.reg [
 O 6 (.mov (.c (I 3)))] []) (
 .ret))
 (.skip))) (
 sq (.reg [
 O 6 (.mov (.c (I 0)))] []) (
 .ret)))))⟩
def L542_0 : PC :=
 sq (sq (.reg [
 O 8 (.mov (.t 3)),
 O 9 (.mov (.t 0)),
 O 10 (.len false (.t 9)),
 O 11 (.bin .lss (.t 8) (.t 10))] [10, 9, 8]) (
 .cond (.t 11) (.skip)
 (.exit 0))) (
 sq (.block 1 (
 sq (.regD [
 O 14 (.mov (.t 0)),
 O 15 (.mov (.t 3)),
 O 16 (.bin .sub (.t 15) (.c (I 1))),
 O 17 (.iaddr (K1 19) (.t 14) (.t 16)),
 O 18 (.load (K1 19) (.t 17)),
 O 19 (.mov (.t 0)),
 O 20 (.mov (.t 3)),
 O 21 (.iaddr (K1 19) (.t 19) (.t 20)),
 O 22 (.load (K1 19) (.t 21)),
 O 23 (.call 0 597 [(.t 18), (.t 22)]),
 O 24 (.un .not (.t 23))] [0, 0, 2, 7, 15, 0, 0, 96, 224, 511, 1023] [23, 22, 21, 20, 19, 18, 17, 16, 15, 14]) (
 .cond (.t 24) (sq (.reg [
 O 2 (.mov (.c (I 10)))] []) (
 .ret))
 (.skip)))) (
 .reg [
 O 12 (.mov (.t 3)),
 O 13 (.bin .add (.t 12) (.c (I 1))),
 O 3 (.mov (.t 13))] [13, 12]))
def L542_1 : PC :=
 sq (sq (.reg [
 O 25 (.mov (.t 4)),
 O 26 (.mov (.t 0)),
 O 27 (.len false (.t 26)),
 O 28 (.bin .lss (.t 25) (.t 27))] [27, 26, 25]) (
 .cond (.t 28) (.skip)
 (.exit 2))) (
 sq (.block 3 (
 sq (.regD [
 O 31 (.mov (.t 0)),
 O 32 (.mov (.t 4)),
 O 33 (.iaddr (K1 19) (.t 31) (.t 32)),
 O 34 (.faddr 0 (.t 33)),
 O 35 (.load K0 (.t 34)),
 O 36 (.mov (.t 0)),
 O 37 (.mov (.t 4)),
 O 38 (.bin .sub (.t 37) (.c (I 1))),
 O 39 (.iaddr (K1 19) (.t 36) (.t 38)),
 O 40 (.faddr 0 (.t 39)),
 O 41 (.load K0 (.t 40)),
 O 42 (.bin .eql (.t 35) (.t 41)),
 O 43 (.mov (.t 42)),
 OG 44 43 true (.mov (.t 0)),
 OG 45 43 true (.mov (.t 4)),
 OG 46 43 true (.iaddr (K1 19) (.t 44) (.t 45)),
 OG 47 43 true (.faddr 1 (.t 46)),
 OG 48 43 true (.load K0 (.t 47)),
 OG 49 43 true (.mov (.t 0)),
 OG 50 43 true (.mov (.t 4)),
 OG 51 43 true (.bin .sub (.t 50) (.c (I 1))),
 OG 52 43 true (.iaddr (K1 19) (.t 49) (.t 51)),
 OG 53 43 true (.faddr 1 (.t 52)),
 OG 54 43 true (.load K0 (.t 53)),
 OG 55 43 true (.bin .neq (.t 48) (.t 54)),
 O 56 (.pick (.t 43) (.t 55) (.c (.b false)))] [0, 0, 3, 7, 15, 0, 0, 64, 224, 480, 992, 2047, 4095, 8191, 8191, 32767, 65535, 131071, 8191, 8191, 532479, 1843199, 3940351, 8134655, 16777215, 33554431] [55, 54, 53, 52, 51, 50, 49, 48, 47, 46, 45, 44, 43, 42, 41, 40, 39, 38, 37, 36, 35, 34, 33, 32, 31]) (
 .cond (.t 56) (sq (.reg [
 O 2 (.mov (.c (I 14)))] []) (
 .ret))
 (.skip)))) (
 .reg [
 O 29 (.mov (.t 4)),
 O 30 (.bin .add (.t 29) (.c (I 1))),
 O 4 (.mov (.t 30))] [30, 29]))
def F542 : PF := ⟨1, [.t 2],
 sq (.reg [
 O 2 (.mov (.c (I 0)))] [2]) (
 sq (sq (.reg [
 O 5 (.mov (.t 0)),
 O 6 (.len false (.t 5)),
 O 7 (.bin .gtr (.t 6) (.c (I 64)))] [6, 5]) (
 .cond (.t 7) (sq (.reg [
 O 2 (.mov (.c (I 5)))] []) (
 .ret))
 (.skip))) (
 sq (sq (.reg [
 O 3 (.mov (.c (I 1)))] []) (
 .block 0 (
 .loop [0, 3] L542_0))) (
 sq (sq (.reg [
 O 4 (.mov (.c (I 1)))] []) (
 .block 2 (
 .loop [0, 4] L542_1))) (
 sq (.reg [
 O 2 (.mov (.c (I 0)))] []) (
 .ret)))))⟩
def L543_0 : PC :=
 sq (sq (.reg [
 O 108 (.mov (.t 14)),
 O 109 (.faddr 17 (.t 3)),
 O 110 (.load K0 (.t 109)),
 O 111 (.len false (.t 110)),
 O 112 (.bin .lss (.t 108) (.t 111))] [111, 110, 109, 108]) (
 .cond (.t 112) (.skip)
 (.exit 0))) (
 sq (.block 1 (
 sq (.reg [
 O 115 (.faddr 17 (.t 3)),
 O 116 (.load K0 (.t 115)),
 O 117 (.mov (.t 14)),
 O 118 (.iaddr (K1 10) (.t 116) (.t 117)),
 O 119 (.load (K1 10) (.t 118)),
 O 120 (.call 0 601 [(.t 119)]),
 O 15 (.mov (.t 120))] [120, 119, 118, 117, 116, 115]) (
 sq (.reg [
 O 121 (.mov (.t 15)),
 O 122 (.bin .neq (.t 121) (.c (I 0)))] [121]) (
 .cond (.t 122) (sq (.reg [
 O 123 (.mov (.t 15)),
 O 6 (.mov (.t 123))] [15, 123]) (
 .ret))
 (.skip))))) (
 .reg [
 O 113 (.mov (.t 14)),
 O 114 (.bin .add (.t 113) (.c (I 1))),
 O 14 (.mov (.t 114))] [114, 113]))
def L543_1 : PC :=
 sq (sq (.reg [
 O 124 (.mov (.t 16)),
 O 125 (.faddr 18 (.t 3)),
 O 126 (.load K0 (.t 125)),
 O 127 (.len false (.t 126)),
 O 128 (.bin .lss (.t 124) (.t 127))] [127, 126, 125, 124]) (
 .cond (.t 128) (.skip)
 (.exit 2))) (
 sq (.block 3 (
 sq (.reg [
 O 131 (.faddr 18 (.t 3)),
 O 132 (.load K0 (.t 131)),
 O 133 (.mov (.t 16)),
 O 134 (.iaddr (K1 6) (.t 132) (.t 133)),
 O 135 (.load (K1 6) (.t 134)),
 O 136 (.call 0 602 [(.t 135)]),
 O 17 (.mov (.t 136))] [136, 135, 134, 133, 132, 131]) (
 sq (.reg [
 O 137 (.mov (.t 17)),
 O 138 (.bin .neq (.t 137) (.c (I 0)))] [137]) (
 .cond (.t 138) (sq (.reg [
 O 139 (.mov (.t 17)),
 O 6 (.mov (.t 139))] [17, 139]) (
 .ret))
 (.skip))))) (
 .reg [
 O 129 (.mov (.t 16)),
 O 130 (.bin .add (.t 129) (.c (I 1))),
 O 16 (.mov (.t 130))] [130, 129]))
def F543 : PF := ⟨3, [.t 6],
 sq (.reg [
 O 3 (.box (K1 19) (.t 0)),
 O 6 (.mov (.c (I 0)))] [6, 0]) (
 sq (sq (.reg [
 O 18 (.faddr 0 (.t 3)),
 O 19 (.load K0 (.t 18)),
 O 20 (.call 0 598 [(.t 19)]),
 O 21 (.un .not (.t 20))] [20, 19, 18]) (
 .cond (.t 21) (sq (.reg [
 O 6 (.mov (.c (I 4)))] []) (
 .ret))
 (.skip))) (
 sq (sq (.reg [
 O 23 (.mov (.t 1)),
 O 24 (.faddr 1 (.t 3)),
 O 25 (.load K0 (.t 24)),
 O 26 (.call 0 599 [(.t 23), (.t 25)]),
 O 22 (.mov (.t 26)),
 O 27 (.ext (.t 22) 0),
 O 28 (.ext (.t 22) 1),
 O 7 (.alloc (K1 2) (.a [(.s []), (I 0)])),
 E (.store (K1 2) (.t 7) (.t 27)),
 O 8 (.mov (.t 28))] [7, 28, 27, 22, 26, 25, 24, 1, 23]) (
 sq (.reg [
 O 29 (.mov (.t 8)),
 O 30 (.un .not (.t 29))] [8, 29]) (
 .cond (.t 30) (sq (.reg [
 O 6 (.mov (.c (I 14)))] []) (
 .ret))
 (.skip)))) (
 sq (sq (.reg [
 O 32 (.mov (.t 2)),
 O 33 (.faddr 2 (.t 3)),
 O 34 (.load K0 (.t 33)),
 O 35 (.call 0 513 [(.t 32), (.t 34)]),
 O 31 (.mov (.t 35)),
 O 36 (.ext (.t 31) 0),
 O 37 (.ext (.t 31) 1),
 O 9 (.alloc (K1 3) (.a [(.s []), (.l K0 [] true), (.l K0 [] true)])),
 E (.store (K1 3) (.t 9) (.t 36)),
 O 10 (.mov (.t 37))] [9, 37, 36, 31, 35, 34, 33, 2, 32]) (
 sq (.reg [
 O 38 (.mov (.t 10)),
 O 39 (.un .not (.t 38))] [10, 38]) (
 .cond (.t 39) (sq (.reg [
 O 6 (.mov (.c (I 11)))] []) (
 .ret))
 (.skip)))) (
 sq (.reg [
 O 40 (.faddr 4 (.t 3)),
 O 41 (.load K0 (.t 40)),
 O 42 (.bin .eql (.t 41) (.c (I 1))),
 O 43 (.mov (.t 42)),
 OG 44 43 false (.faddr 4 (.t 3)),
 OG 45 43 false (.load K0 (.t 44)),
 OG 46 43 false (.bin .eql (.t 45) (.c (I 3))),
 O 47 (.pick (.t 43) (.c (.b true)) (.t 46)),
 O 48 (.mov (.t 47)),
 OG 49 48 false (.faddr 4 (.t 3)),
 OG 50 48 false (.load K0 (.t 49)),
 OG 51 48 false (.bin .eql (.t 50) (.c (I 6))),
 O 52 (.pick (.t 48) (.c (.b true)) (.t 51)),
 O 53 (.mov (.t 52)),
 OG 54 53 false (.faddr 4 (.t 3)),
 OG 55 53 false (.load K0 (.t 54)),
 OG 56 53 false (.bin .eql (.t 55) (.c (I 12))),
 O 57 (.pick (.t 53) (.c (.b true)) (.t 56)),
 O 11 (.mov (.t 57))] [57, 56, 55, 54, 53, 52, 51, 50, 49, 48, 47, 46, 45, 44, 43, 42, 41, 40]) (
 sq (sq (.reg [
 O 58 (.faddr 3 (.t 3)),
 O 59 (.load K0 (.t 58)),
 O 60 (.call 0 544 [(.t 59)]),
 O 61 (.un .not (.t 60)),
 O 62 (.mov (.t 61)),
 OG 63 62 false (.mov (.t 11)),
 OG 64 62 false (.un .not (.t 63)),
 O 65 (.pick (.t 62) (.c (.b true)) (.t 64)),
 O 66 (.mov (.t 65)),
 OG 67 66 false (.faddr 5 (.t 3)),
 OG 68 66 false (.load K0 (.t 67)),
 OG 69 66 false (.bin .lss (.t 68) (.c (I 0))),
 O 70 (.pick (.t 66) (.c (.b true)) (.t 69)),
 O 71 (.mov (.t 70)),
 OG 72 71 false (.faddr 5 (.t 3)),
 OG 73 71 false (.load K0 (.t 72)),
 OG 74 71 false (.bin .gtr (.t 73) (.c (I 1000000000000))),
 O 75 (.pick (.t 71) (.c (.b true)) (.t 74)),
 O 76 (.mov (.t 75)),
 OG 77 76 false (.faddr 6 (.t 3)),
 OG 78 76 false (.load K0 (.t 77)),
 OG 79 76 false (.bin .lss (.t 78) (.c (I 0))),
 O 80 (.pick (.t 76) (.c (.b true)) (.t 79)),
 O 81 (.mov (.t 80)),
 OG 82 81 false (.faddr 6 (.t 3)),
 OG 83 81 false (.load K0 (.t 82)),
 OG 84 81 false (.bin .gtr (.t 83) (.c (I 1000000))),
 O 85 (.pick (.t 81) (.c (.b true)) (.t 84))] [84, 83, 82, 81, 80, 79, 78, 77, 76, 75, 74, 73, 72, 71, 70, 69, 68, 67, 66, 65, 64, 11, 63, 62, 61, 60, 59, 58]) (
 .cond (.t 85) (sq (.reg [
 O 6 (.mov (.c (I 1)))] []) (
 .ret))
 (.skip))) (
 sq (sq (.reg [
 O 86 (.faddr 7 (.t 3)),
 O 87 (.load (K1 5) (.t 86)),
 O 88 (.call 0 600 [(.t 87)]),
 O 12 (.mov (.t 88))] [88, 87, 86]) (
 sq (.reg [
 O 89 (.mov (.t 12)),
 O 90 (.bin .neq (.t 89) (.c (I 0)))] [89]) (
 .cond (.t 90) (sq (.reg [
 O 91 (.mov (.t 12)),
 O 6 (.mov (.t 91))] [12, 91]) (
 .ret))
 (.skip)))) (
 sq (sq (.reg [
 O 92 (.faddr 12 (.t 3)),
 O 93 (.load (K1 5) (.t 92)),
 O 94 (.call 0 600 [(.t 93)]),
 O 13 (.mov (.t 94))] [94, 93, 92]) (
 sq (.reg [
 O 95 (.mov (.t 13)),
 O 96 (.bin .neq (.t 95) (.c (I 0)))] [95]) (
 .cond (.t 96) (sq (.reg [
 O 97 (.mov (.t 13)),
 O 6 (.mov (.t 97))] [13, 97]) (
 .ret))
 (.skip)))) (
 sq (sq (.reg [
 O 98 (.faddr 17 (.t 3)),
 O 99 (.load K0 (.t 98)),
 O 100 (.len false (.t 99)),
 O 101 (.bin .gtr (.t 100) (.c (I 4))),
 O 102 (.mov (.t 101)),
 OG 103 102 false (.faddr 18 (.t 3)),
 OG 104 102 false (.load K0 (.t 103)),
 OG 105 102 false (.len false (.t 104)),
 OG 106 102 false (.bin .gtr (.t 105) (.c (I 4))),
 O 107 (.pick (.t 102) (.c (.b true)) (.t 106))] [106, 105, 104, 103, 102, 101, 100, 99, 98]) (
 .cond (.t 107) (sq (.reg [
 O 6 (.mov (.c (I 5)))] []) (
 .ret))
 (.skip))) (
 sq (sq (.reg [
 O 14 (.mov (.c (I 0)))] []) (
 .block 0 (
 .loop [3, 14] L543_0))) (
 sq (sq (.reg [
 O 16 (.mov (.c (I 0)))] []) (
 .block 2 (
 .loop [3, 16] L543_1))) (
 sq (.reg [
 O 6 (.mov (.c (I 0)))] []) (
 .ret))))))))))))⟩
def F544 : PF := ⟨1, [.t 2],
 sq (.reg [
 O 2 (.mov (.c (.b false)))] [2]) (
 sq (.reg [
 O 3 (.mov (.t 0)),
 O 4 (.bin .geq (.t 3) (.c (I 0))),
 O 5 (.mov (.t 4)),
 OG 6 5 true (.mov (.t 0)),
 OG 7 5 true (.bin .leq (.t 6) (.c (I 73048))),
 O 8 (.pick (.t 5) (.t 7) (.c (.b false))),
 O 2 (.mov (.t 8))] [8, 7, 6, 5, 4, 0, 3]) (
 .ret))⟩
def F545 : PF := ⟨1, [.t 2],
 sq (.reg [
 O 1 (.box (K1 7) (.t 0)),
 O 2 (.mov (.c (.b false)))] [2, 0]) (
 sq (.regD [
 O 3 (.faddr 0 (.t 1)),
 O 4 (.load K0 (.t 3)),
 O 5 (.bin .geq (.t 4) (.c (I 1000))),
 O 6 (.mov (.t 5)),
 OG 7 6 true (.faddr 0 (.t 1)),
 OG 8 6 true (.load K0 (.t 7)),
 OG 9 6 true (.bin .leq (.t 8) (.c (I 99999999))),
 O 10 (.pick (.t 6) (.t 9) (.c (.b false))),
 O 11 (.mov (.t 10)),
 OG 12 11 true (.faddr 1 (.t 1)),
 OG 13 11 true (.load K0 (.t 12)),
 OG 14 11 true (.call 0 544 [(.t 13)]),
 O 15 (.pick (.t 11) (.t 14) (.c (.b false))),
 O 16 (.mov (.t 15)),
 OG 17 16 true (.faddr 6 (.t 1)),
 OG 18 16 true (.load K0 (.t 17)),
 OG 19 16 true (.faddr 0 (.t 1)),
 OG 20 16 true (.load K0 (.t 19)),
 OG 21 16 true (.call 0 106 [(.t 20)]),
 OG 22 16 true (.bin .eql (.t 18) (.t 21)),
 O 23 (.pick (.t 16) (.t 22) (.c (.b false))),
 O 2 (.mov (.t 23))] [0, 1, 3, 7, 15, 31, 63, 127, 255, 511, 1023, 2047, 4095, 8191, 16383, 32767, 16383, 81919, 212991, 524287, 1048575, 2097151] [23, 22, 21, 20, 19, 18, 17, 16, 15, 14, 13, 12, 11, 10, 9, 8, 7, 6, 5, 4, 1, 3]) (
 .ret))⟩
def F546 : PF := ⟨2, [.t 4],
 sq (.reg [
 O 2 (.box (K1 22) (.t 0)),
 O 3 (.box (K1 7) (.t 1)),
 O 4 (.mov (.c (I 0)))] [4, 1, 0]) (
 sq (sq (.reg [
 O 7 (.faddr 4 (.t 3)),
 O 8 (.load K0 (.t 7)),
 O 9 (.call 0 598 [(.t 8)]),
 O 10 (.un .not (.t 9))] [9, 8, 7]) (
 .cond (.t 10) (sq (.reg [
 O 4 (.mov (.c (I 4)))] []) (
 .ret))
 (.skip))) (
 sq (sq (.reg [
 O 12 (.faddr 17 (.t 2)),
 O 13 (.load K0 (.t 12)),
 O 14 (.faddr 5 (.t 3)),
 O 15 (.load K0 (.t 14)),
 O 16 (.faddr 1 (.t 3)),
 O 17 (.load K0 (.t 16)),
 O 18 (.call 0 603 [(.t 13), (.t 15), (.t 17)]),
 O 11 (.mov (.t 18)),
 O 19 (.ext (.t 11) 0),
 O 20 (.ext (.t 11) 1),
 O 5 (.alloc (K1 19) (.a [(.s []), (.s []), (.s []), (I 0), (I 0), (I 0), (I 0), (.l (K1 2) [] true), (.b false), (I 0), (I 0), (.b false), (.l (K1 2) [] true), (.b false), (I 0), (I 0), (.b false), (.l (K1 10) [] true), (.l (K1 6) [] true)])),
 E (.store (K1 19) (.t 5) (.t 19)),
 O 6 (.mov (.t 20))] [5, 20, 19, 11, 18, 17, 16, 15, 3, 14, 13, 2, 12]) (
 sq (.reg [
 O 21 (.mov (.t 6)),
 O 22 (.un .not (.t 21))] [6, 21]) (
 .cond (.t 22) (sq (.reg [
 O 4 (.mov (.c (I 11)))] []) (
 .ret))
 (.skip)))) (
 sq (.reg [
 O 4 (.mov (.c (I 0)))] []) (
 .ret))))⟩
def L547_0 : PC :=
 sq (sq (.reg [
 O 4 (.mov (.t 3)),
 O 5 (.mov (.t 0)),
 O 6 (.len false (.t 5)),
 O 7 (.bin .lss (.t 4) (.t 6))] [6, 5, 4]) (
 .cond (.t 7) (.skip)
 (.exit 0))) (
 sq (.block 1 (
 sq (.regD [
 O 10 (.mov (.t 0)),
 O 11 (.mov (.t 3)),
 O 12 (.sl (K1 10) (.t 10) none (some (.t 11)) none),
 O 13 (.mov (.t 0)),
 O 14 (.mov (.t 3)),
 O 15 (.iaddr (K1 10) (.t 13) (.t 14)),
 O 16 (.load (K1 10) (.t 15)),
 O 17 (.call 0 604 [(.t 12), (.t 16)]),
 O 18 (.bin .neq (.t 17) (.c (I 0))),
 O 19 (.mov (.t 18)),
 OG 20 19 false (.mov (.t 0)),
 OG 21 19 false (.mov (.t 3)),
 OG 22 19 false (.sl (K1 10) (.t 20) none (some (.t 21)) none),
 OG 23 19 false (.mov (.t 0)),
 OG 24 19 false (.mov (.t 3)),
 OG 25 19 false (.iaddr (K1 10) (.t 23) (.t 24)),
 OG 26 19 false (.load (K1 10) (.t 25)),
 OG 27 19 false (.call 0 605 [(.t 22), (.t 26)]),
 OG 28 19 false (.mov (.t 0)),
 OG 29 19 false (.mov (.t 3)),
 OG 30 19 false (.iaddr (K1 10) (.t 28) (.t 29)),
 OG 31 19 false (.load (K1 10) (.t 30)),
 OG 32 19 false (.call 0 9 [(.t 27), (.t 31)]),
 OG 33 19 false (.un .not (.t 32)),
 O 34 (.pick (.t 19) (.c (.b true)) (.t 33))] [0, 0, 3, 0, 0, 24, 56, 127, 255, 511, 1023, 1023, 4095, 1023, 1023, 25599, 58367, 131071, 1023, 1023, 787455, 1836031, 4194303, 8388607, 16777215] [33, 32, 31, 30, 29, 28, 27, 26, 25, 24, 23, 22, 21, 20, 19, 18, 17, 16, 15, 14, 13, 12, 11, 10]) (
 .cond (.t 34) (sq (.reg [
 O 35 (.mov (.t 3)),
 O 2 (.mov (.t 35))] [3, 35]) (
 .ret))
 (.skip)))) (
 .reg [
 O 8 (.mov (.t 3)),
 O 9 (.bin .add (.t 8) (.c (I 1))),
 O 3 (.mov (.t 9))] [9, 8]))
def F547 : PF := ⟨1, [.t 2],
 sq (.reg [
 O 2 (.mov (.c (I 0)))] [2]) (
 sq (sq (.reg [
 O 3 (.mov (.c (I 0)))] []) (
 .block 0 (
 .loop [0, 3] L547_0))) (
 sq (.reg [
 O 2 (.mov (.c (I (-1))))] []) (
 .ret)))⟩
end Go.Sim

