/- Part 7 of the proof: CbA25a. -/
import Derived.Test.YtahfohlafjiajaaGreatDoorB2
import Derived.Test.YtahfohlafjiajaaGreatDoorB6
namespace Go.Sim
def F12:PF:=⟨2,[.c 4 (K1 7),.t 5],
 sq (.reg [
 O 2 (.box (K1 22) (.t 0)),
 O 4 (.alloc (K1 7) (.a [I 0,I 0,I 0,I 0,.s [],.s [],.s []])),
 O 5 (.mov (.c (.b false)))] [5,0]) (
 sq (.reg [
 O 7 (.load (K1 22) (.t 2)),
 mM 8 1,
 O 9 (.call 0 16 [.t 7,.t 8]),
 mM 6 9] [9,1,8,7]) (
 sq (sq (.reg [
 mM 10 6,
 O 11 (.bin .lss (.t 10) (.c (I 0)))] [10]) (
 .cond (.t 11) (sq (.reg [
 O 12 (.agg [I 0,I 0,I 0,I 0,.s [],.s [],.s []] []),
 E (.store (K1 7) (.t 4) (.t 12)),
 O 5 (.mov (.c (.b false)))] [12]) (
 .ret))
 (.skip))) (
 sq (.reg [
 mF 13 18 2,
 mL 14 13,
 mM 15 6,
 O 16 (.iaddr (K1 7) (.t 14) (.t 15)),
 O 17 (.load (K1 7) (.t 16)),
 E (.store (K1 7) (.t 4) (.t 17)),
 O 5 (.mov (.c (.b true)))] [17,16,6,15,14,2,13]) (
 .ret))))⟩
def F16:PF:=⟨2,[.t 4],
 sq (.reg [
 O 2 (.box (K1 22) (.t 0)),
 O 3 (.box K0 (.t 1)),
 mI 4 0] [4,1,0]) (
 sq (.reg [
 mF 5 18 2,
 mL 6 5,
 O 7 (.mkf 19 [.t 3]),
 O 8 (.call 2 18 [.t 6,.t 7]),
 mM 4 8] [8,3,7,6,2,5]) (
 .ret))⟩
def F18:PF:=qiV (K1 7)
def F19:PF:=⟨2,[.t 3],
 sq (.reg [
 O 2 (.box (K1 7) (.t 0)),
 O 3 (.mov (.c (.b false)))] [3,0]) (
 sq (.reg [
 mF 4 0 2,
 mL 5 4,
 mL 6 1,
 O 7 (.bin .eql (.t 5) (.t 6)),
 mM 3 7] [7,1,6,5,2,4]) (
 .ret))⟩
def F22:PF:=⟨1,[.t 2],
 sq (.reg [
 O 2 (.mov (.c (.b false)))] [2]) (
 sq (.reg [
 mM 3 0,
 O 4 (.bin .geq (.t 3) (.c (I 0))),
 mM 5 4,
 OG 6 5 true (.mov (.t 0)),
 OG 7 5 true (.bin .leq (.t 6) (.c (I 73048))),
 O 8 (.pick (.t 5) (.t 7) (.c (.b false))),
 mM 2 8] [8,7,6,5,4,0,3]) (
 .ret))⟩
def F24:PF:=⟨3,[.c 6 (K1 19),.t 7],
 sq (.reg [
 O 3 (.box (K1 22) (.t 0)),
 O 6 (.alloc (K1 19) (.a [.s [],.s [],.s [],I 0,I 0,I 0,I 0,(.l (K1 2) [] true),(.b false),I 0,I 0,(.b false),(.l (K1 2) [] true),(.b false),I 0,I 0,(.b false),(.l (K1 10) [] true),(.l (K1 6) [] true)])),
 O 7 (.mov (.c (.b false)))] [7,0]) (
 sq (.reg [
 O 11 (.load (K1 22) (.t 3)),
 mM 12 1,
 O 13 (.call 0 12 [.t 11,.t 12]),
 mM 10 13,
 mX 14 10 0,
 mX 15 10 1,
 O 8 (.alloc (K1 7) (.a [I 0,I 0,I 0,I 0,.s [],.s [],.s []])),
 E (.store (K1 7) (.t 8) (.t 14)),
 mM 9 15] [15,14,10,13,1,12,11]) (
 sq (sq (.reg [
 mM 16 9,
 O 17 (.un .not (.t 16))] [9,16]) (
 .cond (.t 17) (sq (.reg [
 O 18 (.agg [.s [],.s [],.s [],I 0,I 0,I 0,I 0,(.l (K1 2) [] true),(.b false),I 0,I 0,(.b false),(.l (K1 2) [] true),(.b false),I 0,I 0,(.b false),(.l (K1 10) [] true),(.l (K1 6) [] true)] []),
 E (.store (K1 19) (.t 6) (.t 18)),
 O 7 (.mov (.c (.b false)))] [18]) (
 .ret))
 (.skip))) (
 sq (.reg [
 mF 19 17 3,
 mL 20 19,
 mF 21 5 8,
 mL 22 21,
 mM 23 2,
 O 24 (.call 0 30 [.t 20,.t 22,.t 23]),
 mX 25 24 0,
 mX 26 24 1,
 E (.store (K1 19) (.t 6) (.t 25)),
 mM 7 26] [26,25,24,2,23,22,8,21,20,3,19]) (
 .ret))))⟩
def qjX:PC :=
 sq (.reg [
 O 14 (.bin .lss (.t 13) (.t 12))] []) (
 sq (.cond (.t 14) (.skip)
 (.exit 0)) (
 sq (.block 1 (
 sq (.reg [
 mM 15 13,
 O 16 (.iaddr (K1 19) (.t 11) (.t 13)),
 O 17 (.load (K1 19) (.t 16)),
 O 10 (.alloc (K1 19) (.a [.s [],.s [],.s [],I 0,I 0,I 0,I 0,(.l (K1 2) [] true),(.b false),I 0,I 0,(.b false),(.l (K1 2) [] true),(.b false),I 0,I 0,(.b false),(.l (K1 10) [] true),(.l (K1 6) [] true)])),
 mM 9 15,
 E (.store (K1 19) (.t 10) (.t 17))] [17,16,15]) (
 sq (.regD [
 mF 18 0 10,
 mL 19 18,
 mM 20 1,
 O 21 (.bin .eql (.t 19) (.t 20)),
 mM 22 21,
 OG 23 22 true (.faddr 3 (.t 10)),
 OG 24 22 true (.load K0 (.t 23)),
 OG 25 22 true (.mov (.t 2)),
 OG 26 22 true (.bin .leq (.t 24) (.t 25)),
 O 27 (.pick (.t 22) (.t 26) (.c (.b false))),
 mM 28 27,
 OG 29 28 true (.mov (.t 8)),
 OG 30 28 true (.bin .lss (.t 29) (.c (I 0))),
 OG 31 28 true (.mov (.t 30)),
 OG 32 31 false (.faddr 3 (.t 10)),
 OG 33 31 false (.load K0 (.t 32)),
 OG 34 31 false (.mov (.t 0)),
 OG 35 31 false (.mov (.t 8)),
 OG 36 31 false (.iaddr (K1 19) (.t 34) (.t 35)),
 OG 37 31 false (.faddr 3 (.t 36)),
 OG 38 31 false (.load K0 (.t 37)),
 OG 39 31 false (.bin .gtr (.t 33) (.t 38)),
 OG 40 28 true (.pick (.t 31) (.c (.b true)) (.t 39)),
 O 41 (.pick (.t 28) (.t 40) (.c (.b false)))] [0,1,0,7,15,31,63,31,255,511,1023,2047,4095,8191,16383,32767,16383,16383,212991,475135,999423,2097151,4194303,8388607] [40,39,38,37,36,35,34,33,32,31,30,29,28,27,26,25,24,23,22,21,20,19,10,18]) (
 .cond (.t 41) (.reg [
 mM 42 9,
 mM 8 42] [9,42])
 (.skip))))) (
 .reg [
 O 43 (.bin .add (.t 13) (.c (I 1))),
 mM 13 43] [43])))
def F30:PF:=⟨3,[.c 6 (K1 19),.t 7],
 sq (.reg [
 O 6 (.alloc (K1 19) (.a [.s [],.s [],.s [],I 0,I 0,I 0,I 0,(.l (K1 2) [] true),(.b false),I 0,I 0,(.b false),(.l (K1 2) [] true),(.b false),I 0,I 0,(.b false),(.l (K1 10) [] true),(.l (K1 6) [] true)])),
 O 7 (.mov (.c (.b false)))] [7]) (
 sq (.reg [
 O 8 (.mov (.c (I (-1))))] []) (
 sq (sq (.reg [
 mM 11 0,
 O 12 (.len false (.t 11)),
 mI 13 0] []) (
 .block 0 (
 .loop [0,1,2,6,8,11,12,13] qjX))) (
 sq (sq (.reg [
 mM 44 8,
 O 45 (.bin .lss (.t 44) (.c (I 0)))] [44]) (
 .cond (.t 45) (sq (.reg [
 O 46 (.agg [.s [],.s [],.s [],I 0,I 0,I 0,I 0,(.l (K1 2) [] true),(.b false),I 0,I 0,(.b false),(.l (K1 2) [] true),(.b false),I 0,I 0,(.b false),(.l (K1 10) [] true),(.l (K1 6) [] true)] []),
 E (.store (K1 19) (.t 6) (.t 46)),
 O 7 (.mov (.c (.b false)))] [46]) (
 .ret))
 (.skip))) (
 sq (.reg [
 mM 47 0,
 mM 48 8,
 O 49 (.iaddr (K1 19) (.t 47) (.t 48)),
 O 50 (.load (K1 19) (.t 49)),
 E (.store (K1 19) (.t 6) (.t 50)),
 O 7 (.mov (.c (.b true)))] [50,49,8,48,0,47]) (
 .ret)))))⟩
def F39:PF:=⟨3,[.t 6],
 sq (.reg [
 O 3 (.box (K1 22) (.t 0)),
 O 6 (.mov (.c (.b false)))] [6,0]) (
 sq (.reg [
 O 10 (.load (K1 22) (.t 3)),
 mM 11 1,
 O 12 (.call 0 12 [.t 10,.t 11]),
 mM 9 12,
 mX 13 9 0,
 mX 14 9 1,
 O 7 (.alloc (K1 7) (.a [I 0,I 0,I 0,I 0,.s [],.s [],.s []])),
 E (.store (K1 7) (.t 7) (.t 13)),
 mM 8 14] [14,13,9,12,1,11,3,10]) (
 sq (.reg [
 mM 15 8,
 mM 16 15,
 OG 17 16 true (.faddr 1 (.t 7)),
 OG 18 16 true (.load K0 (.t 17)),
 OG 19 16 true (.mov (.t 2)),
 OG 20 16 true (.bin .leq (.t 18) (.t 19)),
 O 21 (.pick (.t 16) (.t 20) (.c (.b false))),
 mM 22 21,
 OG 23 22 true (.faddr 2 (.t 7)),
 OG 24 22 true (.load K0 (.t 23)),
 OG 25 22 true (.bin .eql (.t 24) (.c (I 0))),
 OG 26 22 true (.mov (.t 25)),
 OG 27 26 false (.faddr 2 (.t 7)),
 OG 28 26 false (.load K0 (.t 27)),
 OG 29 26 false (.mov (.t 2)),
 OG 30 26 false (.bin .gtr (.t 28) (.t 29)),
 OG 31 22 true (.pick (.t 26) (.c (.b true)) (.t 30)),
 O 32 (.pick (.t 22) (.t 31) (.c (.b false))),
 mM 6 32] [32,31,30,29,28,27,26,25,24,23,22,21,20,2,19,18,7,17,16,8,15]) (
 .ret)))⟩
def F50:PF:=⟨2,[.t 4],
 sq (.reg [
 O 2 (.box K0 (.t 0)),
 O 3 (.box K0 (.t 1)),
 O 4 (.mov (.c .nf))] [4,1,0]) (
 sq (.reg [
 O 5 (.mkf 59 [.t 2,.t 3]),
 mM 4 5] [3,2,5]) (
 .ret))⟩
def qmI:PC :=
 sq (.reg [
 O 18 (.bin .lss (.t 17) (.t 16))] []) (
 sq (.cond (.t 18) (.skip)
 (.exit 2)) (
 sq (.block 3 (
 sq (.reg [
 O 19 (.iaddr (K1 3) (.t 15) (.t 17)),
 O 20 (.load (K1 3) (.t 19)),
 O 7 (.alloc (K1 3) (.a [I 0,I 0,.s []])),
 E (.store (K1 3) (.t 7) (.t 20))] [20,19]) (
 sq (.reg [
 mF 21 0 7,
 mL 22 21,
 mL 23 2,
 O 24 (.bin .eql (.t 22) (.t 23)),
 mM 25 24,
 OG 26 25 true (.mov (.t 0)),
 OG 27 25 true (.load (K1 10) (.t 5)),
 OG 28 25 true (.faddr 1 (.t 7)),
 OG 29 25 true (.load K0 (.t 28)),
 OG 30 25 true (.callv (.t 26) [.t 27,.t 29]),
 OG 31 25 true (.un .not (.t 30)),
 O 32 (.pick (.t 25) (.t 31) (.c (.b false)))] [31,30,29,28,27,26,25,24,23,22,7,21]) (
 .cond (.t 32) (.ret)
 (.skip))))) (
 .reg [
 O 33 (.bin .add (.t 17) (.c (I 1))),
 mM 17 33] [33])))
def qnf:PC :=
 sq (.reg [
 O 11 (.bin .lss (.t 10) (.t 9))] []) (
 sq (.cond (.t 11) (.skip)
 (.exit 0)) (
 sq (.block 1 (
 sq (.reg [
 O 12 (.iaddr (K1 10) (.t 8) (.t 10)),
 O 13 (.load (K1 10) (.t 12)),
 O 5 (.alloc (K1 10) (.a [I 0,I 0,I 0,I 0,I 0,I 0,.s [],.s [],(.l (K1 3) [] true),(.i .u64 0)])),
 E (.store (K1 10) (.t 5) (.t 13))] [13,12]) (
 sq (.reg [
 mF 14 8 5,
 mL 15 14,
 O 16 (.len false (.t 15)),
 mI 17 0] [14]) (
 .block 2 (
 .loop [0,2,5,8,9,10,15,16,17] qmI))))) (
 .reg [
 O 34 (.bin .add (.t 10) (.c (I 1))),
 mM 10 34] [34])))
def F59:PF:=⟨3,[],
 sq (.reg [
 mL 8 1,
 O 9 (.len false (.t 8)),
 mI 10 0] [1]) (
 .block 0 (
 .loop [0,2,8,9,10] qnf))⟩
def qlq:PC :=
 sq (sq (.reg [
 mM 13 5,
 O 14 (.bin .add (.t 13) (.c (I 1))),
 O 15 (.call 0 71 [.t 14]),
 mM 16 0,
 O 17 (.bin .leq (.t 15) (.t 16))] [16,15,14,13]) (
 .cond (.t 17) (.skip)
 (.exit 0))) (
 .block 1 (
 .reg [
 mM 18 5,
 O 19 (.bin .add (.t 18) (.c (I 1))),
 mM 5 19] [19,18]))
def qmx:PC :=
 sq (sq (.reg [
 mM 24 0,
 mM 25 5,
 mM 26 6,
 O 27 (.call 0 72 [.t 25,.t 26]),
 O 28 (.bin .geq (.t 24) (.t 27))] [27,26,25,24]) (
 .cond (.t 28) (.skip)
 (.exit 2))) (
 .block 3 (
 sq (.reg [
 mM 29 0,
 mM 30 5,
 mM 31 6,
 O 32 (.call 0 72 [.t 30,.t 31]),
 O 33 (.bin .sub (.t 29) (.t 32)),
 mM 0 33] [33,32,31,30,29]) (
 .reg [
 mM 34 6,
 O 35 (.bin .add (.t 34) (.c (I 1))),
 mM 6 35] [35,34])))
def F65:PF:=⟨1,[.t 2,.t 3,.t 4],
 sq (.reg [
 mI 2 0,
 mI 3 0,
 mI 4 0] [4,3,2]) (
 sq (sq (.reg [
 mM 7 0,
 O 8 (.call 0 22 [.t 7]),
 O 9 (.un .not (.t 8))] [8,7]) (
 .cond (.t 9) (sq (.reg [
 mI 2 0,
 mI 3 0,
 mI 4 0] []) (
 .ret))
 (.skip))) (
 sq (.reg [
 mM 10 0,
 O 11 (.bin .quo (.t 10) (.c (I 366))),
 O 12 (.bin .add (.c (I 2000)) (.t 11)),
 mM 5 12] [12,11,10]) (
 sq (.block 0 (
 .loop [0,5] qlq)) (
 sq (.reg [
 mM 20 0,
 mM 21 5,
 O 22 (.call 0 71 [.t 21]),
 O 23 (.bin .sub (.t 20) (.t 22)),
 mM 0 23] [23,22,21,20]) (
 sq (.reg [
 mI 6 1] []) (
 sq (.block 2 (
 .loop [0,5,6] qmx)) (
 sq (.reg [
 mM 36 5,
 mM 37 6,
 mM 38 0,
 O 39 (.bin .add (.t 38) (.c (I 1))),
 mM 2 36,
 mM 3 37,
 mM 4 39] [39,0,38,6,37,5,36]) (
 .ret))))))))⟩
def F71:PF:=⟨1,[.t 2],
 sq (.reg [
 mI 2 0] [2]) (
 sq (.reg [
 mM 5 0,
 O 6 (.bin .sub (.t 5) (.c (I 2000))),
 mM 3 6] [6,5]) (
 sq (.reg [
 mM 7 3,
 O 8 (.bin .add (.t 7) (.c (I 3))),
 O 9 (.bin .quo (.t 8) (.c (I 4))),
 mM 4 9] [9,8,7]) (
 sq (sq (.reg [
 mM 10 0,
 O 11 (.bin .gtr (.t 10) (.c (I 2100)))] [0,10]) (
 .cond (.t 11) (.reg [
 mM 12 4,
 O 13 (.bin .sub (.t 12) (.c (I 1))),
 mM 4 13] [13,12])
 (.skip))) (
 sq (.reg [
 mM 14 3,
 O 15 (.bin .mul (.c (I 365)) (.t 14)),
 mM 16 4,
 O 17 (.bin .add (.t 15) (.t 16)),
 mM 2 17] [17,4,16,15,3,14]) (
 .ret)))))⟩
def F72:PF:=⟨2,[.t 4],
 sq (.reg [
 mI 4 0] [4]) (
 sq (.reg [
 O 6 (.agg [I 0,I 0,I 0,I 0,I 0,I 0,I 0,I 0,I 0,I 0,I 0,I 0,I 0] [(0,K0,(.c (I 0))),(1,K0,(.c (I 31))),(2,K0,(.c (I 28))),(3,K0,(.c (I 31))),(4,K0,(.c (I 30))),(5,K0,(.c (I 31))),(6,K0,(.c (I 30))),(7,K0,(.c (I 31))),(8,K0,(.c (I 31))),(9,K0,(.c (I 30))),(10,K0,(.c (I 31))),(11,K0,(.c (I 30))),(12,K0,(.c (I 31)))]),
 O 5 (.alloc (K1 13) (.a [I 0,I 0,I 0,I 0,I 0,I 0,I 0,I 0,I 0,I 0,I 0,I 0,I 0])),
 E (.store (K1 13) (.t 5) (.t 6))] [6]) (
 sq (sq (.reg [
 mM 7 1,
 O 8 (.bin .eql (.t 7) (.c (I 2))),
 mM 9 8,
 OG 10 9 true (.mov (.t 0)),
 OG 11 9 true (.call 0 66 [.t 10]),
 O 12 (.pick (.t 9) (.t 11) (.c (.b false)))] [11,0,10,9,8,7]) (
 .cond (.t 12) (sq (.reg [
 mI 4 29] []) (
 .ret))
 (.skip))) (
 sq (.reg [
 mM 13 1,
 O 14 (.iaddrA 13 K0 (.t 5) (.t 13)),
 mL 15 14,
 mM 4 15] [15,5,14,1,13]) (
 .ret))))⟩
def qlH:PF:=qiV (K1 3)
def qhZ:PF:=⟨2,[.t 4,.t 5],
 sq (.reg [
 O 2 (.box (K1 4) (.t 0)),
 mI 4 0,
 mI 5 0] [5,4,0]) (
 sq (sq (.reg [
 O 7 (.load (K1 4) (.t 2)),
 O 8 (.call 0 399 [.t 7]),
 mM 6 8] [8,7]) (
 sq (.reg [
 mM 9 6,
 O 10 (.bin .neq (.t 9) (.c (I 0)))] [9]) (
 .cond (.t 10) (sq (.reg [
 mM 11 6,
 mI 4 0,
 mM 5 11] [6,11]) (
 .ret))
 (.skip)))) (
 sq (.reg [
 O 12 (.load (K1 4) (.t 2)),
 mM 13 1,
 O 14 (.call 0 400 [.t 12,.t 13]),
 mX 15 14 0,
 mX 16 14 1,
 mM 4 15,
 mM 5 16] [16,15,14,1,13,2,12]) (
 .ret)))⟩
def qkc:PF:=⟨1,[.t 2],
 sq (.reg [
 O 1 (.box (K1 4) (.t 0)),
 mI 2 0] [2,0]) (
 sq (.block 0 (
 sq (.reg [
 O 4 (.load (K1 4) (.t 1)),
 O 5 (.call 0 405 [.t 4]),
 O 6 (.bin .gtr (.t 5) (.c (I 64))),
 mM 7 6,
 OG 8 7 false (.load (K1 4) (.t 1)),
 OG 9 7 false (.call 0 406 [.t 8]),
 OG 10 7 false (.bin .gtr (.t 9) (.c (I 8))),
 O 11 (.pick (.t 7) (.c (.b true)) (.t 10)),
 mM 3 11] [11,10,9,8,7,6,5,4]) (
 .cond (.t 3) (sq (.reg [
 mI 2 5] []) (
 .ret))
 (sq (.reg [
 O 13 (.load (K1 4) (.t 1)),
 O 14 (.call 2 407 [.t 13,.f 408]),
 O 15 (.un .not (.t 14)),
 mM 12 15] [15,14,13]) (
 .cond (.t 12) (sq (.reg [
 mI 2 1] []) (
 .ret))
 (sq (.reg [
 O 17 (.load (K1 4) (.t 1)),
 O 18 (.call 2 407 [.t 17,.f 409]),
 O 19 (.un .not (.t 18)),
 mM 16 19] [19,18,1,17]) (
 .cond (.t 16) (sq (.reg [
 mI 2 4] []) (
 .ret))
 (.skip)))))))) (
 sq (.reg [
 mI 2 0] []) (
 .ret)))⟩
def qia:PC :=
 sq (.reg [
 O 33 (.bin .lss (.t 32) (.t 31))] []) (
 sq (.cond (.t 33) (.skip)
 (.exit 1)) (
 sq (.block 2 (
 sq (.reg [
 O 34 (.iaddr (K1 4) (.t 30) (.t 32)),
 O 35 (.load (K1 4) (.t 34)),
 O 8 (.alloc (K1 4) (.a [I 0,I 0,.s [],(.l (K1 4) [] true)])),
 E (.store (K1 4) (.t 8) (.t 35))] [35,34]) (
 sq (.reg [
 O 37 (.load (K1 4) (.t 8)),
 mM 38 1,
 O 39 (.call 0 400 [.t 37,.t 38]),
 mM 36 39,
 mX 40 36 0,
 mX 41 36 1,
 mM 9 40,
 mM 10 41] [41,40,36,39,38,8,37]) (
 sq (sq (.reg [
 mM 42 10,
 O 43 (.bin .neq (.t 42) (.c (I 0)))] [42]) (
 .cond (.t 43) (sq (.reg [
 mM 44 10,
 mI 4 0,
 mM 5 44] [10,44]) (
 .ret))
 (.skip))) (
 .reg [
 mM 45 6,
 mM 46 9,
 O 47 (.bsl K0 (I 0) 1 [(0,(.t 46))]),
 O 48 (.app K0 8 (.t 45) (.t 47)),
 mM 6 48] [48,47,9,46,45]))))) (
 .reg [
 O 49 (.bin .add (.t 32) (.c (I 1))),
 mM 32 49] [49])))
def qgw:PF:=⟨2,[.t 4,.t 5],
 sq (.reg [
 O 2 (.box (K1 4) (.t 0)),
 mI 4 0,
 mI 5 0] [5,4,0]) (
 sq (sq (.reg [
 mF 13 0 2,
 mL 14 13] [13]) (
 .block 0 (
 sq (.reg [
 O 16 (.bin .eql (.t 14) (.c (I 1))),
 mM 15 16] [16]) (
 .cond (.t 15) (sq (.reg [
 mI 4 1,
 mI 5 0] []) (
 .ret))
 (sq (.reg [
 O 18 (.bin .eql (.t 14) (.c (I 2))),
 mM 17 18] [18]) (
 .cond (.t 17) (sq (.reg [
 mI 4 2,
 mI 5 0] []) (
 .ret))
 (sq (.reg [
 O 20 (.bin .eql (.t 14) (.c (I 3))),
 mM 19 20] [20]) (
 .cond (.t 19) (sq (.reg [
 mI 4 3,
 mI 5 0] []) (
 .ret))
 (sq (.reg [
 O 22 (.bin .eql (.t 14) (.c (I 4))),
 mM 21 22] [14,22]) (
 .cond (.t 21) (sq (.reg [
 mF 23 2 2,
 mL 24 23,
 mM 25 1,
 O 26 (.call 0 410 [.t 24,.t 25]),
 mX 27 26 0,
 mX 28 26 1,
 mM 4 27,
 mM 5 28] [28,27,26,1,25,24,2,23]) (
 .ret))
 (.skip))))))))))) (
 sq (.reg [
 O 6 (.mov (.c (.l K0 [] true)))] []) (
 sq (sq (.reg [
 mF 29 3 2,
 mL 30 29,
 O 31 (.len false (.t 30)),
 mI 32 0] [29]) (
 .block 1 (
 .loop [1,2,6,30,31,32] qia))) (
 sq (.reg [
 mF 51 0 2,
 mL 52 51,
 mM 53 6,
 O 54 (.call 0 411 [.t 52,.t 53]),
 mM 50 54,
 mX 55 50 0,
 mX 56 50 1,
 mM 11 55,
 mM 12 56] [56,55,50,54,6,53,52,2,51]) (
 sq (sq (.reg [
 mM 57 12,
 O 58 (.un .not (.t 57))] [12,57]) (
 .cond (.t 58) (sq (.reg [
 mI 4 0,
 mI 5 3] []) (
 .ret))
 (.skip))) (
 sq (.reg [
 mM 59 11,
 mM 4 59,
 mI 5 0] [11,59]) (
 .ret)))))))⟩
def qmv:PC :=
 sq (.reg [
 O 10 (.bin .lss (.t 9) (.t 8))] []) (
 sq (.cond (.t 10) (.skip)
 (.exit 0)) (
 sq (.block 1 (
 sq (.reg [
 O 11 (.iaddr (K1 4) (.t 7) (.t 9)),
 O 12 (.load (K1 4) (.t 11)),
 O 5 (.alloc (K1 4) (.a [I 0,I 0,.s [],(.l (K1 4) [] true)])),
 E (.store (K1 4) (.t 5) (.t 12))] [12,11]) (
 .reg [
 mM 13 3,
 O 14 (.load (K1 4) (.t 5)),
 O 15 (.call 0 405 [.t 14]),
 O 16 (.bin .add (.t 13) (.t 15)),
 mM 3 16] [16,15,5,14,13]))) (
 .reg [
 O 17 (.bin .add (.t 9) (.c (I 1))),
 mM 9 17] [17])))
def qjA:PF:=⟨1,[.t 2],
 sq (.reg [
 O 1 (.box (K1 4) (.t 0)),
 mI 2 0] [2,0]) (
 sq (.reg [
 mI 3 1] []) (
 sq (sq (.reg [
 mF 6 3 1,
 mL 7 6,
 O 8 (.len false (.t 7)),
 mI 9 0] [1,6]) (
 .block 0 (
 .loop [3,7,8,9] qmv))) (
 sq (.reg [
 mM 18 3,
 mM 2 18] [3,18]) (
 .ret))))⟩
def qlG:PC :=
 sq (.reg [
 O 10 (.bin .lss (.t 9) (.t 8))] []) (
 sq (.cond (.t 10) (.skip)
 (.exit 0)) (
 sq (.block 1 (
 sq (.reg [
 O 11 (.iaddr (K1 4) (.t 7) (.t 9)),
 O 12 (.load (K1 4) (.t 11)),
 O 5 (.alloc (K1 4) (.a [I 0,I 0,.s [],(.l (K1 4) [] true)])),
 E (.store (K1 4) (.t 5) (.t 12))] [12,11]) (
 .reg [
 mM 13 3,
 O 14 (.load (K1 4) (.t 5)),
 O 15 (.call 0 406 [.t 14]),
 O 16 (.minmax true [.t 13,.t 15]),
 mM 3 16] [16,15,5,14,13]))) (
 .reg [
 O 17 (.bin .add (.t 9) (.c (I 1))),
 mM 9 17] [17])))
def qkJ:PF:=⟨1,[.t 2],
 sq (.reg [
 O 1 (.box (K1 4) (.t 0)),
 mI 2 0] [2,0]) (
 sq (.reg [
 mI 3 0] []) (
 sq (sq (.reg [
 mF 6 3 1,
 mL 7 6,
 O 8 (.len false (.t 7)),
 mI 9 0] [1,6]) (
 .block 0 (
 .loop [3,7,8,9] qlG))) (
 sq (.reg [
 mM 18 3,
 O 19 (.bin .add (.t 18) (.c (I 1))),
 mM 2 19] [19,3,18]) (
 .ret))))⟩
def qiK:PF:=⟨2,[.t 4],
 sq (.reg [
 O 2 (.box (K1 4) (.t 0)),
 O 3 (.box K0 (.t 1)),
 O 4 (.mov (.c (.b false)))] [4,1,0]) (
 sq (.reg [
 mL 5 3,
 O 6 (.load (K1 4) (.t 2)),
 O 7 (.callv (.t 5) [.t 6]),
 mM 8 7,
 OG 9 8 true (.faddr 3 (.t 2)),
 OG 10 8 true (.load K0 (.t 9)),
 OG 11 8 true (.mkf 413 [.t 3]),
 OG 12 8 true (.call 2 412 [.t 10,.t 11]),
 OG 13 8 true (.un .not (.t 12)),
 O 14 (.pick (.t 8) (.t 13) (.c (.b false))),
 mM 4 14] [14,13,12,11,10,9,8,7,2,6,3,5]) (
 .ret))⟩
def qjU:PF:=⟨1,[.t 2],
 sq (.reg [
 O 1 (.box (K1 4) (.t 0)),
 O 2 (.mov (.c (.b false)))] [2,0]) (
 sq (.reg [
 mI 3 0] []) (
 sq (sq (.reg [
 mF 4 0 1,
 mL 5 4] [4]) (
 .block 0 (
 sq (.reg [
 O 7 (.bin .eql (.t 5) (.c (I 1))),
 mM 6 7] [7]) (
 .cond (.t 6) (.reg [
 mI 3 9223372036854775807] [])
 (sq (.reg [
 O 9 (.bin .eql (.t 5) (.c (I 2))),
 mM 8 9] [9]) (
 .cond (.t 8) (.reg [
 mI 3 1000000000000] [])
 (sq (.reg [
 O 11 (.bin .eql (.t 5) (.c (I 3))),
 mM 10 11] [5,11]) (
 .cond (.t 10) (.reg [
 mI 3 1000000] [])
 (.skip))))))))) (
 sq (.regD [
 mF 12 0 1,
 mL 13 12,
 O 14 (.call 0 414 [.t 13]),
 mF 15 3 1,
 mL 16 15,
 O 17 (.len false (.t 16)),
 O 18 (.bin .eql (.t 14) (.t 17)),
 mM 19 18,
 OG 20 19 true (.faddr 1 (.t 1)),
 OG 21 19 true (.load K0 (.t 20)),
 OG 22 19 true (.bin .geq (.t 21) (.c (I 0))),
 O 23 (.pick (.t 19) (.t 22) (.c (.b false))),
 mM 24 23,
 OG 25 24 true (.faddr 1 (.t 1)),
 OG 26 24 true (.load K0 (.t 25)),
 OG 27 24 true (.mov (.t 3)),
 OG 28 24 true (.bin .leq (.t 26) (.t 27)),
 O 29 (.pick (.t 24) (.t 28) (.c (.b false))),
 mM 30 29,
 OG 31 30 true (.faddr 2 (.t 1)),
 OG 32 30 true (.load K0 (.t 31)),
 OG 33 30 true (.bin .eql (.t 32) (.c (.s []))),
 OG 34 30 true (.mov (.t 33)),
 OG 35 34 false (.faddr 0 (.t 1)),
 OG 36 34 false (.load K0 (.t 35)),
 OG 37 34 false (.bin .eql (.t 36) (.c (I 4))),
 OG 38 30 true (.pick (.t 34) (.c (.b true)) (.t 37)),
 O 39 (.pick (.t 30) (.t 38) (.c (.b false))),
 mM 2 39] [0,1,3,0,8,24,63,127,255,511,1023,2047,4095,8191,16383,8191,65535,131071,262143,524287,1048575,2097151,4194303,8388607,16777215,33554431,67108863,134217727,268435455] [39,38,37,36,35,34,33,32,31,30,29,28,3,27,26,25,24,23,22,21,20,19,18,17,16,15,14,13,1,12]) (
 .ret))))⟩
def qj6:PF:=⟨1,[.t 2],
 sq (.reg [
 O 1 (.box (K1 4) (.t 0)),
 O 2 (.mov (.c (.b false)))] [2,0]) (
 sq (.reg [
 mF 3 0 1,
 mL 4 3,
 O 5 (.bin .neq (.t 4) (.c (I 4))),
 mM 6 5,
 OG 7 6 false (.faddr 2 (.t 1)),
 OG 8 6 false (.load K0 (.t 7)),
 OG 9 6 false (.call 0 415 [.t 8]),
 O 10 (.pick (.t 6) (.c (.b true)) (.t 9)),
 mM 2 10] [10,9,8,7,6,5,4,1,3]) (
 .ret))⟩
def qkp:PF:=⟨2,[.t 4],
 sq (.reg [
 O 4 (.mov (.c (.b false)))] [4]) (
 sq (.reg [
 mM 5 0,
 mM 6 1,
 O 7 (.call 2 419 [.t 5,.t 6]),
 O 8 (.bin .geq (.t 7) (.c (I 0))),
 mM 4 8] [8,7,1,6,0,5]) (
 .ret))⟩
def qfk:PF:=⟨1,[.t 2],
 sq (.reg [
 mI 2 0] [2]) (
 sq (sq (.reg [
 mM 3 0] []) (
 .block 0 (
 sq (sq (.reg [
 O 5 (.bin .eql (.t 3) (.c (I 1))),
 mM 4 5] [5]) (
 .cond (.t 4) (.skip)
 (sq (.reg [
 O 6 (.bin .eql (.t 3) (.c (I 2))),
 mM 4 6] [6]) (
 .cond (.t 4) (.skip)
 (sq (.reg [
 O 7 (.bin .eql (.t 3) (.c (I 3))),
 mM 4 7] [7]) (
 .cond (.t 4) (.skip)
 (.reg [
 O 8 (.bin .eql (.t 3) (.c (I 4))),
 mM 4 8] [8]))))))) (
 .cond (.t 4) (sq (.reg [
 mI 2 0] []) (
 .ret))
 (sq (sq (.reg [
 O 10 (.bin .eql (.t 3) (.c (I 9))),
 mM 9 10] [10]) (
 .cond (.t 9) (.skip)
 (.reg [
 O 11 (.bin .eql (.t 3) (.c (I 16))),
 mM 9 11] [11]))) (
 .cond (.t 9) (sq (.reg [
 mI 2 1] []) (
 .ret))
 (sq (.reg [
 O 13 (.bin .eql (.t 3) (.c (I 19))),
 mM 12 13] [3,13]) (
 .cond (.t 12) (sq (.reg [
 mI 2 3] []) (
 .ret))
 (.skip))))))))) (
 sq (sq (.reg [
 mM 14 0,
 O 15 (.bin .geq (.t 14) (.c (I 5))),
 mM 16 15,
 OG 17 16 true (.mov (.t 0)),
 OG 18 16 true (.bin .leq (.t 17) (.c (I 18))),
 O 19 (.pick (.t 16) (.t 18) (.c (.b false)))] [18,17,16,15,0,14]) (
 .cond (.t 19) (sq (.reg [
 mI 2 2] []) (
 .ret))
 (.skip))) (
 sq (.reg [
 O 2 (.mov (.c (I (-1))))] []) (
 .ret))))⟩
def qhb:PF:=⟨1,[.t 2],
 sq (.reg [
 O 2 (.mov (.c (.b false)))] [2]) (
 sq (.reg [
 mM 7 0,
 O 8 (.call 0 420 [.t 7]),
 mM 6 8,
 mX 9 6 0,
 mX 10 6 1,
 mX 11 6 2,
 mM 3 9,
 mM 4 10,
 mM 5 11] [4,11,10,9,6,8,7]) (
 sq (.reg [
 mM 12 5,
 O 13 (.bin .eql (.t 12) (.c (I 0))),
 mM 14 13,
 OG 15 14 true (.mov (.t 3)),
 OG 16 14 true (.len false (.t 15)),
 OG 17 14 true (.bin .eql (.t 16) (.c (I 1))),
 O 18 (.pick (.t 14) (.t 17) (.c (.b false))),
 mM 19 18,
 OG 20 19 true (.mov (.t 3)),
 OG 21 19 true (.iaddr (K1 3) (.t 20) (.c (I 0))),
 OG 22 19 true (.faddr 0 (.t 21)),
 OG 23 19 true (.load K0 (.t 22)),
 OG 24 19 true (.bin .eql (.t 23) (.c (I 1))),
 O 25 (.pick (.t 19) (.t 24) (.c (.b false))),
 mM 26 25,
 OG 27 26 true (.mov (.t 3)),
 OG 28 26 true (.iaddr (K1 3) (.t 27) (.c (I 0))),
 OG 29 26 true (.faddr 2 (.t 28)),
 OG 30 26 true (.load K0 (.t 29)),
 OG 31 26 true (.mov (.t 0)),
 OG 32 26 true (.bin .eql (.t 30) (.t 31)),
 O 33 (.pick (.t 26) (.t 32) (.c (.b false))),
 mM 2 33] [33,32,0,31,30,29,28,27,26,25,24,23,22,21,20,19,18,17,16,3,15,14,13,5,12]) (
 .ret)))⟩
def qjf:PF:=⟨1,[.t 2],
 sq (.reg [
 O 2 (.mov (.c (.b false)))] [2]) (
 sq (.reg [
 mM 3 0,
 O 4 (.bin .geq (.t 3) (.c (I 1))),
 mM 5 4,
 OG 6 5 true (.mov (.t 0)),
 OG 7 5 true (.bin .leq (.t 6) (.c (I 5))),
 O 8 (.pick (.t 5) (.t 7) (.c (.b false))),
 mM 2 8] [8,7,6,5,4,0,3]) (
 .ret))⟩
def qlj:PF:=qiV (K1 4)
def qh3:PC :=
 .block 1 (
 sq (.reg [
 mM 13 0,
 O 14 (.call 0 422 [.t 13]),
 mM 7 14] [14,13]) (
 sq (.reg [
 mM 15 6,
 mM 16 0,
 mM 17 7,
 O 18 (.slS (.t 16) none (some (.t 17))),
 O 19 (.call 0 423 [.t 18,(.c (.s [10]))]),
 O 20 (.bin .add (.t 15) (.t 19)),
 mM 6 20] [20,19,18,17,16,15]) (
 sq (.reg [
 mM 21 0,
 mM 22 7,
 O 23 (.slS (.t 21) (some (.t 22)) none),
 mM 0 23] [23,7,22,21]) (
 sq (sq (.reg [
 mM 24 0,
 O 25 (.bin .eql (.t 24) (.c (.s [])))] [24]) (
 .cond (.t 25) (sq (.reg [
 mM 26 5,
 mM 2 26,
 mI 3 0,
 mI 4 0] [5,26]) (
 .ret))
 (.skip))) (
 sq (.reg [
 mM 28 0,
 O 29 (.call 0 424 [.t 28]),
 mM 27 29,
 mX 30 27 0,
 mX 31 27 1,
 O 8 (.alloc (K1 3) (.a [I 0,I 0,.s []])),
 E (.store (K1 3) (.t 8) (.t 30)),
 mM 9 31] [31,30,27,29,28]) (
 sq (sq (.reg [
 mM 32 9,
 O 33 (.bin .neq (.t 32) (.c (I 0)))] [32]) (
 .cond (.t 33) (sq (.reg [
 mM 34 6,
 mM 35 9,
 O 2 (.mov (.c (.l (K1 3) [] true))),
 mM 3 34,
 mM 4 35] [9,35,6,34]) (
 .ret))
 (.skip))) (
 sq (.reg [
 mM 36 6,
 mF 37 1 8,
 E (.store K0 (.t 37) (.t 36))] [37,36]) (
 sq (.reg [
 mM 38 5,
 O 39 (.load (K1 3) (.t 8)),
 O 40 (.bsl (K1 3) (.a [I 0,I 0,.s []]) 1 [(0,(.t 39))]),
 O 41 (.app (K1 3) 32 (.t 38) (.t 40)),
 mM 5 41] [41,40,39,38]) (
 .reg [
 mM 42 0,
 mF 43 2 8,
 mL 44 43,
 O 45 (.len true (.t 44)),
 O 46 (.slS (.t 42) (some (.t 45)) none),
 mM 0 46] [46,45,44,8,43,42])))))))))
def qjo:PF:=⟨1,[.t 2,.t 3,.t 4],
 sq (.reg [
 O 2 (.mov (.c (.l (K1 3) [] true))),
 mI 3 0,
 mI 4 0] [4,3,2]) (
 sq (sq (.reg [
 mM 10 0,
 O 11 (.len true (.t 10)),
 O 12 (.bin .gtr (.t 11) (.c (I 2048)))] [11,10]) (
 .cond (.t 12) (sq (.reg [
 O 2 (.mov (.c (.l (K1 3) [] true))),
 mI 3 0,
 mI 4 5] []) (
 .ret))
 (.skip))) (
 sq (.reg [
 O 5 (.mov (.c (.l (K1 3) [] true)))] []) (
 sq (.reg [
 mI 6 1] []) (
 .block 0 (
 .loop [0,5,6] qh3)))))⟩
def qh4:PC :=
 sq (sq (.reg [
 mM 4 3,
 mM 5 0,
 O 6 (.len true (.t 5)),
 O 7 (.bin .lss (.t 4) (.t 6))] [6,5,4]) (
 .cond (.t 7) (.skip)
 (.exit 0))) (
 .block 1 (
 sq (.reg [
 mM 8 0,
 mM 9 3,
 O 10 (.idxS (.t 8) (.t 9))] [9,8]) (
 .block 2 (
 sq (sq (.reg [
 O 13 (.bin .eql (.t 10) (.c (.i .u8 32))),
 mM 12 13] [13]) (
 .cond (.t 12) (.skip)
 (sq (.reg [
 O 14 (.bin .eql (.t 10) (.c (.i .u8 9))),
 mM 12 14] [14]) (
 .cond (.t 12) (.skip)
 (.reg [
 O 15 (.bin .eql (.t 10) (.c (.i .u8 10))),
 mM 12 15] [15]))))) (
 .cond (.t 12) (.reg [
 mM 16 3,
 O 17 (.bin .add (.t 16) (.c (I 1))),
 mM 3 17] [17,16])
 (sq (.reg [
 O 19 (.bin .eql (.t 10) (.c (.i .u8 35))),
 mM 18 19] [10,19]) (
 .cond (.t 18) (.reg [
 mM 20 3,
 mM 21 0,
 mM 22 3,
 O 23 (.slS (.t 21) (some (.t 22)) none),
 O 24 (.call 2 425 [.t 23,.f 426]),
 O 25 (.len true (.t 24)),
 O 26 (.bin .add (.t 20) (.t 25)),
 mM 3 26] [26,25,24,23,22,21,20])
 (sq (.reg [
 mM 11 3,
 mM 2 11] [3,11]) (
 .ret)))))))))
def qjE:PF:=⟨1,[.t 2],
 sq (.reg [
 mI 2 0] [2]) (
 sq (.reg [
 mI 3 0] []) (
 sq (.block 0 (
 .loop [0,3] qh4)) (
 sq (.reg [
 mM 27 3,
 mM 2 27] [3,27]) (
 .ret))))⟩
def qmW:PC :=
 sq (.reg [
 O 37 (.bin .lss (.t 36) (.t 35))] []) (
 sq (.cond (.t 37) (.skip)
 (.exit 1)) (
 sq (.block 2 (
 sq (.reg [
 O 38 (.iaddr K0 (.t 34) (.t 36)),
 mL 39 38,
 mM 7 39] [39,38]) (
 sq (.reg [
 mM 40 0,
 mM 41 7,
 O 42 (.call 0 207 [.t 40,.t 41])] [41,40]) (
 .cond (.t 42) (sq (.reg [
 mM 43 7,
 O 44 (.agg [I 0,I 0,.s []] [(0,K0,(.c (I 4))),(2,K0,(.t 43))]),
 E (.store (K1 3) (.t 2) (.t 44)),
 mI 3 0] [44,7,43]) (
 .ret))
 (.skip))))) (
 .reg [
 O 45 (.bin .add (.t 36) (.c (I 1))),
 mM 36 45] [45])))
def qfH:PF:=⟨1,[.c 2 (K1 3),.t 3],
 sq (.reg [
 O 2 (.alloc (K1 3) (.a [I 0,I 0,.s []])),
 mI 3 0] [3]) (
 sq (sq (.reg [
 mM 8 0,
 O 9 (.idxS (.t 8) (.c (I 0))),
 O 10 (.conv .i32 (.t 9)),
 mM 4 10] [10,9,8]) (
 .block 0 (
 sq (.reg [
 mM 12 4,
 O 13 (.call 0 429 [.t 12]),
 mM 11 13] [13,12]) (
 .cond (.t 11) (sq (.reg [
 mM 14 0,
 O 15 (.call 2 425 [.t 14,.f 430]),
 mM 5 15] [15,0,14]) (
 sq (sq (.reg [
 mM 16 5,
 O 17 (.call 0 431 [.t 16])] [16]) (
 .cond (.t 17) (sq (.reg [
 mM 18 5,
 O 19 (.agg [I 0,I 0,.s []] [(0,K0,(.c (I 5))),(2,K0,(.t 18))]),
 E (.store (K1 3) (.t 2) (.t 19)),
 mI 3 0] [19,5,18]) (
 .ret))
 (.skip))) (
 sq (sq (.reg [
 mM 20 5,
 O 21 (.len true (.t 20)),
 O 22 (.bin .gtr (.t 21) (.c (I 16)))] [21,20]) (
 .cond (.t 22) (sq (.reg [
 O 23 (.agg [I 0,I 0,.s []] []),
 E (.store (K1 3) (.t 2) (.t 23)),
 mI 3 4] [23]) (
 .ret))
 (.skip))) (
 sq (.reg [
 mM 24 5,
 O 25 (.agg [I 0,I 0,.s []] [(0,K0,(.c (I 1))),(2,K0,(.t 24))]),
 E (.store (K1 3) (.t 2) (.t 25)),
 mI 3 0] [25,5,24]) (
 .ret)))))
 (sq (.reg [
 mM 27 4,
 O 28 (.call 0 432 [.t 27]),
 mM 26 28] [28,4,27]) (
 .cond (.t 26) (sq (.reg [
 mM 29 0,
 O 30 (.call 2 425 [.t 29,.f 434]),
 O 31 (.call 0 433 [.t 30]),
 mX 32 31 0,
 mX 33 31 1,
 E (.store (K1 3) (.t 2) (.t 32)),
 mM 3 33] [33,32,31,30,0,29]) (
 .ret))
 (.skip))))))) (
 sq (sq (.reg [
 O 34 (.call 0 435 []),
 O 35 (.len false (.t 34)),
 mI 36 0] []) (
 .block 1 (
 .loop [0,2,34,35,36] qmW))) (
 sq (.reg [
 O 46 (.agg [I 0,I 0,.s []] []),
 E (.store (K1 3) (.t 2) (.t 46)),
 mI 3 2] [46]) (
 .ret))))⟩
def qkx:PC :=
 sq (sq (.reg [
 mM 6 5,
 mM 7 0,
 O 8 (.len true (.t 7)),
 O 9 (.bin .lss (.t 6) (.t 8)),
 mM 10 9,
 OG 11 10 true (.mov (.t 1)),
 OG 12 10 true (.mov (.t 0)),
 OG 13 10 true (.mov (.t 5)),
 OG 14 10 true (.idxS (.t 12) (.t 13)),
 OG 15 10 true (.conv .i32 (.t 14)),
 OG 16 10 true (.callv (.t 11) [.t 15]),
 O 17 (.pick (.t 10) (.t 16) (.c (.b false)))] [16,15,14,13,12,11,10,9,8,7,6]) (
 .cond (.t 17) (.skip)
 (.exit 0))) (
 .block 1 (
 .reg [
 mM 18 5,
 O 19 (.bin .add (.t 18) (.c (I 1))),
 mM 5 19] [19,18]))
def qks:PF:=⟨2,[.t 4],
 sq (.reg [
 O 4 (.mov (.c (.s [])))] [4]) (
 sq (.reg [
 mI 5 0] []) (
 sq (.block 0 (
 .loop [0,1,5] qkx)) (
 sq (.reg [
 mM 20 0,
 mM 21 5,
 O 22 (.slS (.t 20) none (some (.t 21))),
 mM 4 22] [22,5,21,0,20]) (
 .ret))))⟩
def qjs:PF:=⟨1,[.t 2],
 sq (.reg [
 O 2 (.mov (.c (.b false)))] [2]) (
 sq (.reg [
 mM 3 0,
 O 4 (.bin .geq (.t 3) (.c (.i .i32 97))),
 mM 5 4,
 OG 6 5 true (.mov (.t 0)),
 OG 7 5 true (.bin .leq (.t 6) (.c (.i .i32 122))),
 O 8 (.pick (.t 5) (.t 7) (.c (.b false))),
 mM 2 8] [8,7,6,5,4,0,3]) (
 .ret))⟩
def qhn:PF:=⟨1,[.t 2],
 sq (.reg [
 O 2 (.mov (.c (.b false)))] [2]) (
 sq (.reg [
 mM 3 0,
 O 4 (.call 0 429 [.t 3]),
 mM 5 4,
 OG 6 5 false (.mov (.t 0)),
 OG 7 5 false (.call 0 432 [.t 6]),
 O 8 (.pick (.t 5) (.c (.b true)) (.t 7)),
 mM 9 8,
 OG 10 9 false (.mov (.t 0)),
 OG 11 9 false (.bin .eql (.t 10) (.c (.i .i32 95))),
 O 12 (.pick (.t 9) (.c (.b true)) (.t 11)),
 mM 2 12] [12,11,10,9,8,7,6,5,4,0,3]) (
 .ret))⟩
def qkP:PF:=⟨1,[.t 2],
 sq (.reg [
 O 2 (.mov (.c (.b false)))] [2]) (
 sq (.reg [
 O 3 (.call 0 438 []),
 mM 4 0,
 O 5 (.call 0 437 [.t 3,.t 4]),
 mM 2 5] [5,0,4,3]) (
 .ret))⟩
def qkv:PF:=⟨2,[.t 4],
 sq (.reg [
 O 4 (.mov (.c (.b false)))] [4]) (
 sq (.reg [
 mM 5 0,
 mM 6 1,
 O 7 (.call 0 446 [.t 5,.t 6]),
 O 8 (.bin .geq (.t 7) (.c (I 0))),
 mM 4 8] [8,7,1,6,0,5]) (
 .ret))⟩
def qld:PC :=
 sq (.reg [
 O 9 (.bin .lss (.t 8) (.t 7))] []) (
 sq (.cond (.t 9) (.skip)
 (.exit 0)) (
 sq (.block 1 (
 sq (.reg [
 mM 10 8,
 mM 5 10] [10]) (
 sq (.reg [
 mM 11 1,
 mM 12 0,
 mM 13 5,
 O 14 (.iaddr K0 (.t 12) (.t 13)),
 mL 15 14,
 O 16 (.bin .eql (.t 11) (.t 15))] [15,14,13,12,11]) (
 .cond (.t 16) (sq (.reg [
 mM 17 5,
 mM 4 17] [5,17]) (
 .ret))
 (.skip))))) (
 .reg [
 O 18 (.bin .add (.t 8) (.c (I 1))),
 mM 8 18] [18])))
def qko:PF:=⟨2,[.t 4],
 sq (.reg [
 mI 4 0] [4]) (
 sq (sq (.reg [
 mM 6 0,
 O 7 (.len false (.t 6)),
 mI 8 0] [6]) (
 .block 0 (
 .loop [0,1,7,8] qld))) (
 sq (.reg [
 O 4 (.mov (.c (I (-1))))] []) (
 .ret)))⟩
def qkq:PF:=⟨2,[.t 4],
 sq (.reg [
 O 4 (.mov (.c (.b false)))] [4]) (
 sq (.reg [
 mM 5 0,
 mM 6 1,
 O 7 (.call 2 265 [.t 5,.t 6]),
 O 8 (.bin .geq (.t 7) (.c (I 0))),
 mM 4 8] [8,7,1,6,0,5]) (
 .ret))⟩
def qnD:PC :=
 .reg [
 mM 7 12] [12]
def qqy:PC :=
 .block 1 (
 .reg [
 mL 13 5,
 mM 14 7,
 O 15 (.bin .sub (.t 13) (.t 14)),
 E (.store K0 (.t 5) (.t 15))] [15,7,14,5,13])
def qjS:PF:=⟨2,[.t 4],
 sq (.reg [
 mI 4 0] [4]) (
 sq (.reg [
 O 5 (.alloc K0 (I 0)),
 E (.store K0 (.t 5) (.c (I 0)))] []) (
 sq (sq (.reg [
 mM 8 0,
 mM 9 1,
 O 10 (.call 2 50 [.t 8,.t 9])] [1,9,0,8]) (
 .block 0 (
 .rng (.t 10) 100012 [11,12] [5] qnD qqy))) (
 sq (.reg [
 mL 16 5,
 mM 4 16] [5,16]) (
 .ret))))⟩
def qmc:PC :=
 sq (.reg [
 O 78 (.bin .lss (.t 77) (.t 76))] []) (
 sq (.cond (.t 78) (.skip)
 (.exit 1)) (
 sq (.block 2 (
 sq (.reg [
 O 79 (.iaddr (K1 10) (.t 75) (.t 77)),
 O 80 (.load (K1 10) (.t 79)),
 O 20 (.alloc (K1 10) (.a [I 0,I 0,I 0,I 0,I 0,I 0,.s [],.s [],(.l (K1 3) [] true),(.i .u64 0)])),
 E (.store (K1 10) (.t 20) (.t 80))] [80,79]) (
 sq (.reg [
 mF 81 1 20,
 mL 82 81,
 mM 83 12,
 O 84 (.bin .geq (.t 82) (.t 83)),
 mM 85 84,
 OG 86 85 true (.faddr 1 (.t 20)),
 OG 87 85 true (.load K0 (.t 86)),
 OG 88 85 true (.mov (.t 2)),
 OG 89 85 true (.bin .leq (.t 87) (.t 88)),
 O 90 (.pick (.t 85) (.t 89) (.c (.b false))),
 mM 91 90,
 OG 92 91 true (.load (K1 10) (.t 20)),
 OG 93 91 true (.mov (.t 1)),
 OG 94 91 true (.call 0 883 [.t 92,.t 93]),
 O 95 (.pick (.t 91) (.t 94) (.c (.b false)))] [94,93,92,91,90,89,88,87,86,85,84,83,82,20,81]) (
 .cond (.t 95) (.reg [
 mM 96 18,
 O 97 (.bin .add (.t 96) (.c (I 1))),
 mM 18 97] [97,96])
 (.skip))))) (
 .reg [
 O 98 (.bin .add (.t 77) (.c (I 1))),
 mM 77 98] [98])))
def qmf:PC :=
 sq (.reg [
 O 106 (.bin .lss (.t 105) (.t 104))] []) (
 sq (.cond (.t 106) (.skip)
 (.exit 3)) (
 sq (.block 4 (
 sq (.reg [
 O 107 (.iaddr K0 (.t 103) (.t 105)),
 mL 108 107,
 mM 22 108] [108,107]) (
 sq (.reg [
 mM 109 22,
 O 110 (.bin .lss (.t 109) (.c (I (-1000000000000)))),
 mM 111 110,
 OG 112 111 false (.mov (.t 22)),
 OG 113 111 false (.bin .gtr (.t 112) (.c (I 1000000000000))),
 O 114 (.pick (.t 111) (.c (.b true)) (.t 113))] [113,112,111,110,22,109]) (
 .cond (.t 114) (sq (.reg [
 O 8 (.mov (.c (.l (K1 2) [] true))),
 mI 9 6] []) (
 .ret))
 (.skip))))) (
 .reg [
 O 115 (.bin .add (.t 105) (.c (I 1))),
 mM 105 115] [115])))
def qg7:PF:=⟨4,[.t 8,.t 9],
 sq (.reg [
 O 4 (.box (K1 22) (.t 0)),
 O 8 (.mov (.c (.l (K1 2) [] true))),
 mI 9 0] [9,8,0]) (
 sq (.reg [
 O 26 (.load (K1 22) (.t 4)),
 mM 27 1,
 O 28 (.call 0 12 [.t 26,.t 27]),
 mM 25 28,
 mX 29 25 0,
 mX 30 25 1,
 O 10 (.alloc (K1 7) (.a [I 0,I 0,I 0,I 0,.s [],.s [],.s []])),
 E (.store (K1 7) (.t 10) (.t 29)),
 mM 11 30] [30,29,25,28,27,26]) (
 sq (.block 0 (
 sq (.reg [
 mM 32 11,
 O 33 (.un .not (.t 32)),
 mM 31 33] [33,11,32]) (
 .cond (.t 31) (sq (.reg [
 O 8 (.mov (.c (.l (K1 2) [] true))),
 mI 9 11] []) (
 .ret))
 (sq (.reg [
 mM 35 2,
 O 36 (.call 0 22 [.t 35]),
 O 37 (.un .not (.t 36)),
 mM 38 37,
 OG 39 38 false (.load (K1 22) (.t 4)),
 OG 40 38 false (.mov (.t 1)),
 OG 41 38 false (.mov (.t 2)),
 OG 42 38 false (.call 0 39 [.t 39,.t 40,.t 41]),
 OG 43 38 false (.un .not (.t 42)),
 O 44 (.pick (.t 38) (.c (.b true)) (.t 43)),
 mM 34 44] [44,43,42,41,40,39,38,37,36,35]) (
 .cond (.t 34) (sq (.reg [
 O 8 (.mov (.c (.l (K1 2) [] true))),
 mI 9 16] []) (
 .ret))
 (.skip)))))) (
 sq (.reg [
 mM 45 2,
 O 46 (.call 0 879 [.t 45]),
 mM 12 46] [46,45]) (
 sq (.reg [
 mF 47 19 4,
 mL 48 47,
 mM 49 1,
 O 50 (.call 0 715 [.t 48,.t 49]),
 mM 13 50,
 mI 14 0] [50,49,48,47]) (
 sq (sq (.reg [
 mF 51 19 4,
 mL 52 51,
 mM 53 1,
 mM 54 12,
 mF 55 1 10,
 mL 56 55,
 O 57 (.minmax true [.t 54,.t 56]),
 mM 58 2,
 O 59 (.call 0 880 [.t 52,.t 53,.t 57,.t 58]),
 mM 15 59] [59,58,57,56,55,54,53,52,51]) (
 sq (.reg [
 mM 60 15,
 O 61 (.len false (.t 60)),
 O 62 (.bin .gtr (.t 61) (.c (I 0)))] [61,60]) (
 .cond (.t 62) (.reg [
 mM 63 15,
 O 64 (.call 0 881 [.t 63]),
 mM 14 64] [64,15,63])
 (.skip)))) (
 sq (.reg [
 mF 66 19 4,
 mL 67 66,
 mM 68 1,
 mM 69 12,
 mM 70 2,
 O 71 (.call 0 882 [.t 67,.t 68,.t 69,.t 70]),
 mM 65 71,
 mX 72 65 0,
 mX 73 65 1,
 mM 16 72,
 mM 17 73] [17,73,72,65,71,70,69,68,67,66]) (
 sq (.reg [
 mI 18 0] []) (
 sq (sq (.reg [
 mF 74 19 4,
 mL 75 74,
 O 76 (.len false (.t 75)),
 mI 77 0] [4,74]) (
 .block 1 (
 .loop [1,2,3,10,12,13,14,16,18,75,76,77] qmc))) (
 sq (sq (.reg [
 mM 99 13,
 mM 100 14,
 mM 101 16,
 mM 102 3,
 O 103 (.bsl K0 (I 0) 4 [(0,(.t 99)),(1,(.t 100)),(2,(.t 101)),(3,(.t 102))]),
 O 104 (.len false (.t 103)),
 mI 105 0] [102,101,100,99]) (
 .block 3 (
 .loop [2,3,10,13,14,16,18,103,104,105] qmf))) (
 sq (.reg [
 O 23 (.mov (.f 884))] []) (
 sq (.reg [
 O 24 (.mov (.f 885))] []) (
 sq (.regD [
 mM 116 23,
 mM 117 13,
 O 118 (.callv (.t 116) [.t 117]),
 mM 119 23,
 mM 120 14,
 O 121 (.callv (.t 119) [.t 120]),
 mM 122 23,
 mM 123 16,
 O 124 (.callv (.t 122) [.t 123]),
 mM 125 23,
 mM 126 3,
 O 127 (.callv (.t 125) [.t 126]),
 mM 128 24,
 mM 129 18,
 O 130 (.callv (.t 128) [.t 129]),
 mM 131 24,
 mM 132 2,
 mF 133 1 10,
 mL 134 133,
 O 135 (.bin .sub (.t 132) (.t 134)),
 O 136 (.callv (.t 131) [.t 135]),
 mM 137 2,
 O 138 (.agg [I 0,I 0] [(0,K0,(.c (I 4))),(1,K0,(.t 137))]),
 O 139 (.bsl (K1 2) (.a [I 0,I 0]) 7 [(0,(.t 118)),(1,(.t 121)),(2,(.t 124)),(3,(.t 127)),(4,(.t 130)),(5,(.t 136)),(6,(.t 138))]),
 mM 8 139,
 mI 9 0] [0,0,3,0,0,31,0,0,255,0,0,2047,0,0,16383,0,0,0,131072,458752,1048575,0,2097152,8388607,16777215,33554431] [139,138,137,136,135,134,10,133,2,132,131,130,18,129,24,128,127,3,126,125,124,16,123,122,121,14,120,119,118,13,117,23,116]) (
 .ret)))))))))))))⟩
def qjy:PF:=⟨1,[.t 2],
 sq (.reg [
 mI 2 0] [2]) (
 sq (.reg [
 mM 9 0,
 O 10 (.call 0 65 [.t 9]),
 mM 8 10,
 mX 11 8 0,
 mX 12 8 1,
 mX 13 8 2,
 mM 3 11,
 mM 4 12,
 mM 5 13] [5,13,12,11,8,10,0,9]) (
 sq (.reg [
 mM 15 3,
 mM 16 4,
 O 17 (.call 0 933 [.t 15,.t 16,(.c (I 1))]),
 mM 14 17,
 mX 18 14 0,
 mX 19 14 1,
 mM 6 18,
 mM 7 19] [7,19,18,14,17,4,16,3,15]) (
 sq (.reg [
 mM 20 6,
 mM 2 20] [6,20]) (
 .ret))))⟩
def ql9:PC :=
 sq (.reg [
 O 10 (.alloc (K1 10) (.a [I 0,I 0,I 0,I 0,I 0,I 0,.s [],.s [],(.l (K1 3) [] true),(.i .u64 0)])),
 E (.store (K1 10) (.t 10) (.t 40))] [40]) (
 .reg [
 mM 11 41] [41])
def qng:PC :=
 .block 1 (
 sq (.reg [
 mF 42 2 10,
 mL 43 42,
 mL 44 7,
 O 45 (.bin .leq (.t 43) (.t 44))] [7,44,43,42]) (
 .cond (.t 45) (.reg [
 mL 46 9,
 mL 47 6,
 mF 48 2 10,
 mL 49 48,
 O 50 (.minmax true [.t 47,.t 49]),
 mL 51 6,
 O 52 (.bin .sub (.t 50) (.t 51)),
 O 53 (.iaddr K0 (.t 46) (.t 52)),
 mL 54 53,
 mM 55 11,
 O 56 (.bin .sub (.t 54) (.t 55)),
 O 57 (.iaddr K0 (.t 46) (.t 52)),
 E (.store K0 (.t 57) (.t 56))] [57,56,11,55,54,53,52,51,50,49,10,48,6,47,9,46])
 (.skip)))
def qlo:PC :=
 sq (sq (.reg [
 mM 58 12,
 mL 59 9,
 O 60 (.len false (.t 59)),
 O 61 (.bin .lss (.t 58) (.t 60))] [60,59,58]) (
 .cond (.t 61) (.skip)
 (.exit 2))) (
 sq (.block 3 (
 .regD [
 mL 64 9,
 mM 65 12,
 O 66 (.iaddr K0 (.t 64) (.t 65)),
 mL 67 66,
 mL 68 9,
 mM 69 12,
 O 70 (.bin .sub (.t 69) (.c (I 1))),
 O 71 (.iaddr K0 (.t 68) (.t 70)),
 mL 72 71,
 O 73 (.bin .add (.t 67) (.t 72)),
 O 74 (.iaddr K0 (.t 64) (.t 65)),
 E (.store K0 (.t 74) (.t 73))] [0,0,3,7,0,0,32,112,240,511,1023,2047] [74,73,72,71,70,69,68,67,66,65,64])) (
 .reg [
 mM 62 12,
 O 63 (.bin .add (.t 62) (.c (I 1))),
 mM 12 63] [63,62]))
def qiC:PF:=⟨4,[.t 8],
 sq (.reg [
 O 6 (.box K0 (.t 2)),
 O 7 (.box K0 (.t 3)),
 O 8 (.mov (.c (.l K0 [] true)))] [8,3,2]) (
 sq (sq (.reg [
 mL 13 6,
 O 14 (.call 0 22 [.t 13]),
 O 15 (.un .not (.t 14)),
 mM 16 15,
 OG 17 16 false (.load K0 (.t 7)),
 OG 18 16 false (.call 0 22 [.t 17]),
 OG 19 16 false (.un .not (.t 18)),
 O 20 (.pick (.t 16) (.c (.b true)) (.t 19)),
 mM 21 20,
 OG 22 21 false (.load K0 (.t 6)),
 OG 23 21 false (.load K0 (.t 7)),
 OG 24 21 false (.bin .gtr (.t 22) (.t 23)),
 O 25 (.pick (.t 21) (.c (.b true)) (.t 24)),
 mM 26 25,
 OG 27 26 false (.load K0 (.t 7)),
 OG 28 26 false (.load K0 (.t 6)),
 OG 29 26 false (.bin .sub (.t 27) (.t 28)),
 OG 30 26 false (.bin .geq (.t 29) (.c (I 4000))),
 O 31 (.pick (.t 26) (.c (.b true)) (.t 30))] [30,29,28,27,26,25,24,23,22,21,20,19,18,17,16,15,14,13]) (
 .cond (.t 31) (sq (.reg [
 O 8 (.mov (.c (.l K0 [] true)))] []) (
 .ret))
 (.skip))) (
 sq (.reg [
 mL 32 7,
 mL 33 6,
 O 34 (.bin .sub (.t 32) (.t 33)),
 O 35 (.bin .add (.t 34) (.c (I 1))),
 O 36 (.mksl K0 8 (I 0) (.t 35) (.t 35)),
 O 9 (.alloc K0 (.l K0 [] true)),
 E (.store K0 (.t 9) (.t 36))] [36,35,34,33,32]) (
 sq (sq (.reg [
 mM 37 0,
 mM 38 1,
 O 39 (.call 2 50 [.t 37,.t 38])] [1,38,0,37]) (
 .block 0 (
 .rng (.t 39) 100041 [40,41] [6,7,9] ql9 qng))) (
 sq (sq (.reg [
 mI 12 1] []) (
 .block 2 (
 .loop [9,12] qlo))) (
 sq (.reg [
 mL 75 9,
 mM 8 75] [9,75]) (
 .ret))))))⟩
def qmd:PC :=
 sq (sq (.reg [
 mM 12 4,
 mM 13 0,
 O 14 (.len false (.t 13)),
 O 15 (.bin .lss (.t 12) (.t 14))] [14,13,12]) (
 .cond (.t 15) (.skip)
 (.exit 0))) (
 sq (.block 1 (
 .reg [
 mM 18 3,
 mM 19 0,
 mM 20 4,
 O 21 (.iaddr K0 (.t 19) (.t 20)),
 mL 22 21,
 O 23 (.minmax false [.t 18,.t 22]),
 mM 3 23] [23,22,21,20,19,18])) (
 .reg [
 mM 16 4,
 O 17 (.bin .add (.t 16) (.c (I 1))),
 mM 4 17] [17,16]))
def qkW:PF:=⟨1,[.t 2],
 sq (.reg [
 mI 2 0] [2]) (
 sq (sq (.reg [
 mM 5 0,
 O 6 (.len false (.t 5)),
 O 7 (.bin .lss (.t 6) (.c (I 1)))] [6,5]) (
 .cond (.t 7) (.reg [
 O 8 (.mkif 9 (.c (.s [115,108,105,99,101,115,46,77,105,110,58,32,101,109,112,116,121,32,108,105,115,116]))),
 E (.bad)] [8])
 (.skip))) (
 sq (.reg [
 mM 9 0,
 O 10 (.iaddr K0 (.t 9) (.c (I 0))),
 mL 11 10,
 mM 3 11] [11,10,9]) (
 sq (sq (.reg [
 mI 4 1] []) (
 .block 0 (
 .loop [0,3,4] qmd))) (
 sq (.reg [
 mM 24 3,
 mM 2 24] [3,24]) (
 .ret)))))⟩
def qnn:PC :=
 sq (.reg [
 O 12 (.alloc (K1 10) (.a [I 0,I 0,I 0,I 0,I 0,I 0,.s [],.s [],(.l (K1 3) [] true),(.i .u64 0)])),
 E (.store (K1 10) (.t 12) (.t 17))] [17]) (
 .reg [
 mM 13 18] [18])
def qpt:PC :=
 .block 1 (
 .block 2 (
 sq (.reg [
 mF 23 1 12,
 mL 24 23,
 mL 25 6,
 O 26 (.bin .lss (.t 24) (.t 25)),
 mM 27 26,
 OG 28 27 false (.faddr 1 (.t 12)),
 OG 29 27 false (.load K0 (.t 28)),
 OG 30 27 false (.load K0 (.t 7)),
 OG 31 27 false (.bin .gtr (.t 29) (.t 30)),
 O 32 (.pick (.t 27) (.c (.b true)) (.t 31)),
 mM 22 32] [32,31,7,30,29,28,27,26,6,25,24,12,23]) (
 .cond (.t 22) (.skip)
 (sq (.reg [
 mM 34 13,
 O 35 (.bin .gtr (.t 34) (.c (I 0))),
 mM 33 35] [35,34]) (
 .cond (.t 33) (.reg [
 mL 36 10,
 mM 37 13,
 O 38 (.bin .add (.t 36) (.t 37)),
 E (.store K0 (.t 10) (.t 38))] [38,13,37,10,36])
 (.reg [
 mL 19 11,
 mM 20 13,
 O 21 (.bin .sub (.t 19) (.t 20)),
 E (.store K0 (.t 11) (.t 21))] [21,13,20,11,19]))))))
def qkb:PF:=⟨4,[.t 8,.t 9],
 sq (.reg [
 O 6 (.box K0 (.t 2)),
 O 7 (.box K0 (.t 3)),
 mI 8 0,
 mI 9 0] [9,8,3,2]) (
 sq (.reg [
 O 10 (.alloc K0 (I 0)),
 O 11 (.alloc K0 (I 0)),
 E (.store K0 (.t 10) (.c (I 0))),
 E (.store K0 (.t 11) (.c (I 0)))] []) (
 sq (sq (.reg [
 mM 14 0,
 mM 15 1,
 O 16 (.call 2 50 [.t 14,.t 15])] [1,15,0,14]) (
 .block 0 (
 .rng (.t 16) 100018 [17,18] [6,7,10,11] qnn qpt))) (
 sq (.regD [
 mL 39 10,
 mL 40 11,
 mM 8 39,
 mM 9 40] [0,0,1,7] [11,40,10,39]) (
 .ret))))⟩
def qkV:PF:=⟨2,[.t 4],
 sq (.reg [
 O 2 (.box (K1 10) (.t 0)),
 O 3 (.box K0 (.t 1)),
 O 4 (.mov (.c (.b false)))] [4,1,0]) (
 sq (.reg [
 mF 5 8 2,
 mL 6 5,
 O 7 (.mkf 934 [.t 3]),
 O 8 (.call 2 708 [.t 6,.t 7]),
 mM 4 8] [8,3,7,6,2,5]) (
 .ret))⟩
def qky:PF:=⟨1,[.c 2 (K1 2)],
 sq (.reg [
 O 2 (.alloc (K1 2) (.a [I 0,I 0]))] []) (
 sq (.reg [
 mM 3 0,
 O 4 (.agg [I 0,I 0] [(0,K0,(.c (I 2))),(1,K0,(.t 3))]),
 E (.store (K1 2) (.t 2) (.t 4))] [4,0,3]) (
 .ret))⟩
def qjY:PF:=⟨1,[.c 2 (K1 2)],
 sq (.reg [
 O 2 (.alloc (K1 2) (.a [I 0,I 0]))] []) (
 sq (.reg [
 mM 3 0,
 O 4 (.agg [I 0,I 0] [(0,K0,(.c (I 1))),(1,K0,(.t 3))]),
 E (.store (K1 2) (.t 2) (.t 4))] [4,0,3]) (
 .ret))⟩
def qf6:PF:=⟨3,[.c 6 (K1 2),.t 7],
 sq (.reg [
 O 3 (.box (K1 4) (.t 0)),
 O 6 (.alloc (K1 2) (.a [I 0,I 0])),
 mI 7 0] [7,0]) (
 sq (sq (.reg [
 mM 11 1,
 O 12 (.call 0 945 [.t 11]),
 mM 8 12] [12,11]) (
 sq (.reg [
 mM 13 8,
 O 14 (.bin .neq (.t 13) (.c (I 0)))] [13]) (
 .cond (.t 14) (sq (.reg [
 O 15 (.agg [I 0,I 0] []),
 mM 16 8,
 E (.store (K1 2) (.t 6) (.t 15)),
 mM 7 16] [8,16,15]) (
 .ret))
 (.skip)))) (
 sq (sq (.reg [
 O 18 (.load (K1 4) (.t 3)),
 mM 19 1,
 O 20 (.call 0 387 [.t 18,.t 19]),
 mM 17 20,
 mX 21 17 0,
 mX 22 17 1,
 mM 9 21,
 mM 10 22] [9,22,21,17,20,19,18]) (
 sq (.reg [
 mM 23 10,
 O 24 (.bin .neq (.t 23) (.c (I 0)))] [23]) (
 .cond (.t 24) (sq (.reg [
 O 25 (.agg [I 0,I 0] []),
 mM 26 10,
 E (.store (K1 2) (.t 6) (.t 25)),
 mM 7 26] [10,26,25]) (
 .ret))
 (.skip)))) (
 sq (sq (.reg [
 mM 27 1,
 mM 28 2,
 O 29 (.call 0 946 [.t 27,.t 28]),
 O 30 (.un .not (.t 29))] [29,28,27]) (
 .cond (.t 30) (sq (.reg [
 O 31 (.agg [I 0,I 0] []),
 E (.store (K1 2) (.t 6) (.t 31)),
 mI 7 1] [31]) (
 .ret))
 (.skip))) (
 sq (.reg [
 O 32 (.load (K1 4) (.t 3)),
 mM 33 1,
 mM 34 2,
 O 35 (.call 0 947 [.t 32,.t 33,.t 34]),
 mX 36 35 0,
 mX 37 35 1,
 E (.store (K1 2) (.t 6) (.t 36)),
 mM 7 37] [37,36,35,2,34,1,33,3,32]) (
 .ret)))))⟩
def qle:PC :=
 sq (sq (.reg [
 mM 40 9,
 mM 41 1,
 O 42 (.bin .lss (.t 40) (.t 41))] [41,40]) (
 .cond (.t 42) (.skip)
 (.exit 0))) (
 sq (.block 1 (
 .reg [
 mM 45 8,
 mM 46 0,
 mM 47 9,
 O 48 (.call 0 72 [.t 46,.t 47]),
 O 49 (.bin .add (.t 45) (.t 48)),
 mM 8 49] [49,48,47,46,45])) (
 .reg [
 mM 43 9,
 O 44 (.bin .add (.t 43) (.c (I 1))),
 mM 9 44] [44,43]))
def qku:PF:=⟨3,[.t 6,.t 7],
 sq (.reg [
 mI 6 0,
 mI 7 0] [7,6]) (
 sq (sq (.reg [
 mM 10 0,
 O 11 (.bin .lss (.t 10) (.c (I 2000))),
 mM 12 11,
 OG 13 12 false (.mov (.t 0)),
 OG 14 12 false (.bin .gtr (.t 13) (.c (I 2199))),
 O 15 (.pick (.t 12) (.c (.b true)) (.t 14)),
 mM 16 15,
 OG 17 16 false (.mov (.t 1)),
 OG 18 16 false (.bin .lss (.t 17) (.c (I 1))),
 O 19 (.pick (.t 16) (.c (.b true)) (.t 18)),
 mM 20 19,
 OG 21 20 false (.mov (.t 1)),
 OG 22 20 false (.bin .gtr (.t 21) (.c (I 12))),
 O 23 (.pick (.t 20) (.c (.b true)) (.t 22)),
 mM 24 23,
 OG 25 24 false (.mov (.t 2)),
 OG 26 24 false (.bin .lss (.t 25) (.c (I 1))),
 O 27 (.pick (.t 24) (.c (.b true)) (.t 26)),
 mM 28 27,
 OG 29 28 false (.mov (.t 2)),
 OG 30 28 false (.mov (.t 0)),
 OG 31 28 false (.mov (.t 1)),
 OG 32 28 false (.call 0 72 [.t 30,.t 31]),
 OG 33 28 false (.bin .gtr (.t 29) (.t 32)),
 O 34 (.pick (.t 28) (.c (.b true)) (.t 33))] [33,32,31,30,29,28,27,26,25,24,23,22,21,20,19,18,17,16,15,14,13,12,11,10]) (
 .cond (.t 34) (sq (.reg [
 mI 6 0,
 mI 7 1] []) (
 .ret))
 (.skip))) (
 sq (.reg [
 mM 35 0,
 O 36 (.call 0 71 [.t 35]),
 mM 37 2,
 O 38 (.bin .add (.t 36) (.t 37)),
 O 39 (.bin .sub (.t 38) (.c (I 1))),
 mM 8 39] [39,38,2,37,36,35]) (
 sq (sq (.reg [
 mI 9 1] []) (
 .block 0 (
 .loop [0,1,8,9] qle))) (
 sq (.reg [
 mM 50 8,
 mM 6 50,
 mI 7 0] [8,50]) (
 .ret)))))⟩
def qj1:PF:=⟨2,[.t 3],
 sq (.reg [
 O 2 (.box (K1 3) (.t 0)),
 O 3 (.mov (.c (.b false)))] [3,0]) (
 sq (.reg [
 mF 4 0 2,
 mL 5 4,
 mL 6 1,
 O 7 (.bin .eql (.t 5) (.t 6)),
 mM 3 7] [7,1,6,5,2,4]) (
 .ret))⟩
def qi7:PC :=
 sq (.reg [
 O 15 (.bin .lss (.t 14) (.t 13))] []) (
 sq (.cond (.t 15) (.skip)
 (.exit 0)) (
 sq (.block 1 (
 sq (.reg [
 mM 16 14,
 O 17 (.iaddr (K1 2) (.t 12) (.t 14)),
 O 18 (.load (K1 2) (.t 17)),
 O 6 (.alloc (K1 2) (.a [I 0,I 0])),
 mM 5 16,
 E (.store (K1 2) (.t 6) (.t 18))] [18,17,16]) (
 sq (.regD [
 mF 19 0 6,
 mL 20 19,
 mM 21 0,
 mM 22 5,
 O 23 (.iaddr (K1 2) (.t 21) (.t 22)),
 mF 24 1 23,
 mL 25 24,
 O 26 (.bin .neq (.t 20) (.t 25)),
 mM 27 26,
 OG 28 27 false (.load (K1 2) (.t 6)),
 OG 29 27 false (.call 0 966 [.t 28]),
 OG 30 27 false (.un .not (.t 29)),
 O 31 (.pick (.t 27) (.c (.b true)) (.t 30))] [0,1,0,0,12,28,60,127,255,511,1023,2047,4095] [30,29,28,27,26,25,24,23,5,22,21,20,6,19]) (
 .cond (.t 31) (sq (.reg [
 O 4 (.mov (.c (.b false)))] []) (
 .ret))
 (.skip))))) (
 .reg [
 O 32 (.bin .add (.t 14) (.c (I 1))),
 mM 14 32] [32])))
def qiP:PF:=⟨2,[.t 4],
 sq (.reg [
 O 4 (.mov (.c (.b false)))] [4]) (
 sq (sq (.reg [
 mM 7 0,
 O 8 (.len false (.t 7)),
 mM 9 1,
 O 10 (.len false (.t 9)),
 O 11 (.bin .neq (.t 8) (.t 10))] [10,9,8,7]) (
 .cond (.t 11) (sq (.reg [
 O 4 (.mov (.c (.b false)))] []) (
 .ret))
 (.skip))) (
 sq (sq (.reg [
 mM 12 1,
 O 13 (.len false (.t 12)),
 mI 14 0] [1]) (
 .block 0 (
 .loop [0,12,13,14] qi7))) (
 sq (.reg [
 O 4 (.mov (.c (.b true)))] []) (
 .ret))))⟩
def qmE:PC :=
 sq (.reg [
 O 39 (.bin .lss (.t 38) (.t 37))] []) (
 sq (.cond (.t 39) (.skip)
 (.exit 1)) (
 sq (.block 2 (
 sq (.reg [
 mM 40 38,
 O 41 (.iaddr (K1 2) (.t 36) (.t 38)),
 O 42 (.load (K1 2) (.t 41)),
 O 9 (.alloc (K1 2) (.a [.s [],I 0])),
 mM 8 40,
 E (.store (K1 2) (.t 9) (.t 42))] [42,41,40]) (
 sq (.reg [
 mF 43 0 9,
 mL 44 43,
 mF 45 2 3,
 mL 46 45,
 O 47 (.bin .eql (.t 44) (.t 46))] [46,45,44,9,43]) (
 .cond (.t 47) (sq (.reg [
 mM 48 2,
 mM 49 8,
 O 50 (.iaddr (K1 2) (.t 48) (.t 49)),
 O 51 (.load (K1 2) (.t 50)),
 E (.store (K1 2) (.t 6) (.t 51)),
 mI 7 0] [51,50,8,49,2,48]) (
 .ret))
 (.skip))))) (
 .reg [
 O 52 (.bin .add (.t 38) (.c (I 1))),
 mM 38 52] [52])))
def qie:PC :=
 sq (.reg [
 O 85 (.bin .lss (.t 84) (.t 83))] []) (
 sq (.cond (.t 85) (.skip)
 (.exit 3)) (
 sq (.block 4 (
 sq (.reg [
 O 86 (.iaddr (K1 4) (.t 82) (.t 84)),
 O 87 (.load (K1 4) (.t 86)),
 O 14 (.alloc (K1 4) (.a [I 0,I 0,.s [],(.l (K1 4) [] true)])),
 E (.store (K1 4) (.t 14) (.t 87))] [87,86]) (
 sq (.reg [
 O 89 (.load (K1 4) (.t 14)),
 mM 90 1,
 mM 91 2,
 O 92 (.call 0 947 [.t 89,.t 90,.t 91]),
 mM 88 92,
 mX 93 88 0,
 mX 94 88 1,
 O 15 (.alloc (K1 2) (.a [I 0,I 0])),
 E (.store (K1 2) (.t 15) (.t 93)),
 mM 16 94] [94,93,88,92,91,90,14,89]) (
 sq (sq (.reg [
 mM 95 16,
 O 96 (.bin .neq (.t 95) (.c (I 0)))] [95]) (
 .cond (.t 96) (sq (.reg [
 O 97 (.agg [I 0,I 0] []),
 mM 98 16,
 E (.store (K1 2) (.t 6) (.t 97)),
 mM 7 98] [16,98,97]) (
 .ret))
 (.skip))) (
 .reg [
 mM 99 12,
 O 100 (.load (K1 2) (.t 15)),
 O 101 (.bsl (K1 2) (.a [I 0,I 0]) 1 [(0,(.t 100))]),
 O 102 (.app (K1 2) 16 (.t 99) (.t 101)),
 mM 12 102] [102,101,15,100,99]))))) (
 .reg [
 O 103 (.bin .add (.t 84) (.c (I 1))),
 mM 84 103] [103])))
def qeJ:PF:=⟨3,[.c 6 (K1 2),.t 7],
 sq (.reg [
 O 3 (.box (K1 4) (.t 0)),
 O 6 (.alloc (K1 2) (.a [I 0,I 0])),
 mI 7 0] [7,0]) (
 sq (sq (.reg [
 mF 17 0 3,
 mL 18 17] [17]) (
 .block 0 (
 sq (.reg [
 O 20 (.bin .eql (.t 18) (.c (I 1))),
 mM 19 20] [20]) (
 .cond (.t 19) (sq (.reg [
 mF 21 1 3,
 mL 22 21,
 O 23 (.agg [I 0,I 0] [(0,K0,(.c (I 1))),(1,K0,(.t 22))]),
 E (.store (K1 2) (.t 6) (.t 23)),
 mI 7 0] [23,22,3,21]) (
 .ret))
 (sq (.reg [
 O 25 (.bin .eql (.t 18) (.c (I 2))),
 mM 24 25] [25]) (
 .cond (.t 24) (sq (.reg [
 mF 26 1 3,
 mL 27 26,
 O 28 (.agg [I 0,I 0] [(0,K0,(.c (I 2))),(1,K0,(.t 27))]),
 E (.store (K1 2) (.t 6) (.t 28)),
 mI 7 0] [28,27,3,26]) (
 .ret))
 (sq (.reg [
 O 30 (.bin .eql (.t 18) (.c (I 3))),
 mM 29 30] [30]) (
 .cond (.t 29) (sq (.reg [
 mF 31 1 3,
 mL 32 31,
 O 33 (.agg [I 0,I 0] [(0,K0,(.c (I 3))),(1,K0,(.t 32))]),
 E (.store (K1 2) (.t 6) (.t 33)),
 mI 7 0] [33,32,3,31]) (
 .ret))
 (sq (.reg [
 O 35 (.bin .eql (.t 18) (.c (I 4))),
 mM 34 35] [35]) (
 .cond (.t 34) (sq (.reg [
 mM 36 1,
 O 37 (.len false (.t 36)),
 mI 38 0] []) (
 .block 1 (
 .loop [1,2,3,6,36,37,38] qmE)))
 (sq (.reg [
 O 54 (.bin .eql (.t 18) (.c (I 19))),
 mM 53 54] [18,54]) (
 .cond (.t 53) (sq (.reg [
 mF 56 3 3,
 mL 57 56,
 O 58 (.iaddr (K1 4) (.t 57) (.c (I 0))),
 O 59 (.load (K1 4) (.t 58)),
 mM 60 1,
 mM 61 2,
 O 62 (.call 0 947 [.t 59,.t 60,.t 61]),
 mM 55 62,
 mX 63 55 0,
 mX 64 55 1,
 O 10 (.alloc (K1 2) (.a [I 0,I 0])),
 E (.store (K1 2) (.t 10) (.t 63)),
 mM 11 64] [64,63,55,62,61,60,59,58,57,56]) (
 sq (sq (.reg [
 mM 65 11,
 O 66 (.bin .neq (.t 65) (.c (I 0)))] [65]) (
 .cond (.t 66) (sq (.reg [
 O 67 (.agg [I 0,I 0] []),
 mM 68 11,
 E (.store (K1 2) (.t 6) (.t 67)),
 mM 7 68] [11,68,67]) (
 .ret))
 (.skip))) (
 sq (.reg [
 mF 69 3 3,
 mL 70 69,
 mF 71 1 10,
 mL 72 71,
 O 73 (.bin .sub (.c (I 2)) (.t 72)),
 O 74 (.iaddr (K1 4) (.t 70) (.t 73)),
 O 75 (.load (K1 4) (.t 74)),
 mM 76 1,
 mM 77 2,
 O 78 (.call 0 947 [.t 75,.t 76,.t 77]),
 mX 79 78 0,
 mX 80 78 1,
 E (.store (K1 2) (.t 6) (.t 79)),
 mM 7 80] [80,79,78,2,77,1,76,75,74,73,72,10,71,70,3,69]) (
 .ret))))
 (.skip))))))))))))) (
 sq (.reg [
 O 12 (.mov (.c (.l (K1 2) [] true)))] []) (
 sq (sq (.reg [
 mF 81 3 3,
 mL 82 81,
 O 83 (.len false (.t 82)),
 mI 84 0] [81]) (
 .block 3 (
 .loop [1,2,3,6,12,82,83,84] qie))) (
 sq (.reg [
 mF 104 0 3,
 mL 105 104,
 mM 106 12,
 O 107 (.call 0 967 [.t 105,.t 106]),
 mX 108 107 0,
 mX 109 107 1,
 E (.store (K1 2) (.t 6) (.t 108)),
 mM 7 109] [109,108,107,12,106,105,3,104]) (
 .ret)))))⟩
def qd5:PF:=⟨1,[.t 2],
 sq (.reg [
 O 1 (.box (K1 2) (.t 0)),
 O 2 (.mov (.c (.b false)))] [2,0]) (
 sq (sq (.reg [
 mF 3 0 1,
 mL 4 3] [3]) (
 .block 0 (
 sq (.reg [
 O 6 (.bin .eql (.t 4) (.c (I 1))),
 mM 5 6] [6]) (
 .cond (.t 5) (sq (.reg [
 O 2 (.mov (.c (.b true)))] []) (
 .ret))
 (sq (.reg [
 O 8 (.bin .eql (.t 4) (.c (I 2))),
 mM 7 8] [8]) (
 .cond (.t 7) (sq (.reg [
 mF 9 1 1,
 mL 10 9,
 O 11 (.bin .geq (.t 10) (.c (I (-1000000000000)))),
 mM 12 11,
 OG 13 12 true (.faddr 1 (.t 1)),
 OG 14 12 true (.load K0 (.t 13)),
 OG 15 12 true (.bin .leq (.t 14) (.c (I 1000000000000))),
 O 16 (.pick (.t 12) (.t 15) (.c (.b false))),
 mM 2 16] [16,15,14,13,12,11,10,1,9]) (
 .ret))
 (sq (.reg [
 O 18 (.bin .eql (.t 4) (.c (I 3))),
 mM 17 18] [18]) (
 .cond (.t 17) (sq (.reg [
 mF 19 1 1,
 mL 20 19,
 O 21 (.bin .geq (.t 20) (.c (I (-1000000000)))),
 mM 22 21,
 OG 23 22 true (.faddr 1 (.t 1)),
 OG 24 22 true (.load K0 (.t 23)),
 OG 25 22 true (.bin .leq (.t 24) (.c (I 1000000000))),
 O 26 (.pick (.t 22) (.t 25) (.c (.b false))),
 mM 2 26] [26,25,24,23,22,21,20,1,19]) (
 .ret))
 (sq (.reg [
 O 28 (.bin .eql (.t 4) (.c (I 4))),
 mM 27 28] [28]) (
 .cond (.t 27) (sq (.reg [
 mF 29 1 1,
 mL 30 29,
 O 31 (.bin .geq (.t 30) (.c (I 0))),
 mM 32 31,
 OG 33 32 true (.faddr 1 (.t 1)),
 OG 34 32 true (.load K0 (.t 33)),
 OG 35 32 true (.bin .leq (.t 34) (.c (I 73048))),
 O 36 (.pick (.t 32) (.t 35) (.c (.b false))),
 mM 2 36] [36,35,34,33,32,31,30,1,29]) (
 .ret))
 (sq (.reg [
 O 38 (.bin .eql (.t 4) (.c (I 5))),
 mM 37 38] [4,38]) (
 .cond (.t 37) (sq (.reg [
 mF 39 1 1,
 mL 40 39,
 O 41 (.bin .eql (.t 40) (.c (I 0))),
 mM 42 41,
 OG 43 42 false (.faddr 1 (.t 1)),
 OG 44 42 false (.load K0 (.t 43)),
 OG 45 42 false (.bin .eql (.t 44) (.c (I 1))),
 O 46 (.pick (.t 42) (.c (.b true)) (.t 45)),
 mM 2 46] [46,45,44,43,42,41,40,1,39]) (
 .ret))
 (.skip))))))))))))) (
 sq (.reg [
 O 2 (.mov (.c (.b false)))] []) (
 .ret)))⟩
end Go.Sim

