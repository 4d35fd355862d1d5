/- Part 7 of the proof: CbA25a. -/
import Derived.Test.YtcihddahcplehaaGreatDoorB2
import Derived.Test.YtcihddahcplehaaGreatDoorB6
namespace Go.Sim
def F12:PF:=⟨2,[.c 4 (K1 7),.t 5],
 sq (.reg [
 O 2 (.box (K1 22) (.t 0)),
 O 4 (.alloc (K1 7) (.a [I 0,I 0,I 0,I 0,.s [],.s [],.s []])),
 O 5 (.mov (.c (.b false)))] [5,0]) (
 sq (.reg [
 O 7 (.load (K1 22) (.t 2)),
 mM 8 1,
 O 9 (.call 0 16 [.t 7,.t 8]),
 mM 6 9] [9,1,8,7]) (
 sq (sq (.reg [
 mM 10 6,
 O 11 (.bin .lss (.t 10) (.c (I 0)))] [10]) (
 .cond (.t 11) (sq (.reg [
 O 12 (.agg [I 0,I 0,I 0,I 0,.s [],.s [],.s []] []),
 E (.store (K1 7) (.t 4) (.t 12)),
 O 5 (.mov (.c (.b false)))] [12]) (
 .ret))
 (.skip))) (
 sq (.reg [
 mF 13 18 2,
 mL 14 13,
 mM 15 6,
 O 16 (.iaddr (K1 7) (.t 14) (.t 15)),
 O 17 (.load (K1 7) (.t 16)),
 E (.store (K1 7) (.t 4) (.t 17)),
 O 5 (.mov (.c (.b true)))] [17,16,6,15,14,2,13]) (
 .ret))))⟩
def F16:PF:=⟨2,[.t 4],
 sq (.reg [
 O 2 (.box (K1 22) (.t 0)),
 O 3 (.box K0 (.t 1)),
 mI 4 0] [4,1,0]) (
 sq (.reg [
 mF 5 18 2,
 mL 6 5,
 O 7 (.mkf 19 [.t 3]),
 O 8 (.call 2 18 [.t 6,.t 7]),
 mM 4 8] [8,3,7,6,2,5]) (
 .ret))⟩
def F18:PF:=qhE (K1 7)
def F19:PF:=⟨2,[.t 3],
 sq (.reg [
 O 2 (.box (K1 7) (.t 0)),
 O 3 (.mov (.c (.b false)))] [3,0]) (
 sq (.reg [
 mF 4 0 2,
 mL 5 4,
 mL 6 1,
 O 7 (.bin .eql (.t 5) (.t 6)),
 mM 3 7] [7,1,6,5,2,4]) (
 .ret))⟩
def F24:PF:=⟨3,[.c 6 (K1 19),.t 7],
 sq (.reg [
 O 3 (.box (K1 22) (.t 0)),
 O 6 (.alloc (K1 19) (.a [.s [],.s [],.s [],I 0,I 0,I 0,I 0,(.l (K1 2) [] true),(.b false),I 0,I 0,(.b false),(.l (K1 2) [] true),(.b false),I 0,I 0,(.b false),(.l (K1 10) [] true),(.l (K1 6) [] true)])),
 O 7 (.mov (.c (.b false)))] [7,0]) (
 sq (.reg [
 O 11 (.load (K1 22) (.t 3)),
 mM 12 1,
 O 13 (.call 0 12 [.t 11,.t 12]),
 mM 10 13,
 mX 14 10 0,
 mX 15 10 1,
 O 8 (.alloc (K1 7) (.a [I 0,I 0,I 0,I 0,.s [],.s [],.s []])),
 E (.store (K1 7) (.t 8) (.t 14)),
 mM 9 15] [15,14,10,13,1,12,11]) (
 sq (sq (.reg [
 mM 16 9,
 O 17 (.un .not (.t 16))] [9,16]) (
 .cond (.t 17) (sq (.reg [
 O 18 (.agg [.s [],.s [],.s [],I 0,I 0,I 0,I 0,(.l (K1 2) [] true),(.b false),I 0,I 0,(.b false),(.l (K1 2) [] true),(.b false),I 0,I 0,(.b false),(.l (K1 10) [] true),(.l (K1 6) [] true)] []),
 E (.store (K1 19) (.t 6) (.t 18)),
 O 7 (.mov (.c (.b false)))] [18]) (
 .ret))
 (.skip))) (
 sq (.reg [
 mF 19 17 3,
 mL 20 19,
 mF 21 5 8,
 mL 22 21,
 mM 23 2,
 O 24 (.call 0 30 [.t 20,.t 22,.t 23]),
 mX 25 24 0,
 mX 26 24 1,
 E (.store (K1 19) (.t 6) (.t 25)),
 mM 7 26] [26,25,24,2,23,22,8,21,20,3,19]) (
 .ret))))⟩
def qko:PC :=
 sq (.reg [
 O 14 (.bin .lss (.t 13) (.t 12))] []) (
 sq (.cond (.t 14) (.skip)
 (.exit 0)) (
 sq (.block 1 (
 sq (.reg [
 mM 15 13,
 O 16 (.iaddr (K1 19) (.t 11) (.t 13)),
 O 17 (.load (K1 19) (.t 16)),
 O 10 (.alloc (K1 19) (.a [.s [],.s [],.s [],I 0,I 0,I 0,I 0,(.l (K1 2) [] true),(.b false),I 0,I 0,(.b false),(.l (K1 2) [] true),(.b false),I 0,I 0,(.b false),(.l (K1 10) [] true),(.l (K1 6) [] true)])),
 mM 9 15,
 E (.store (K1 19) (.t 10) (.t 17))] [17,16,15]) (
 sq (.regD [
 mF 18 0 10,
 mL 19 18,
 mM 20 1,
 O 21 (.bin .eql (.t 19) (.t 20)),
 mM 22 21,
 OG 23 22 true (.faddr 3 (.t 10)),
 OG 24 22 true (.load K0 (.t 23)),
 OG 25 22 true (.mov (.t 2)),
 OG 26 22 true (.bin .leq (.t 24) (.t 25)),
 O 27 (.pick (.t 22) (.t 26) (.c (.b false))),
 mM 28 27,
 OG 29 28 true (.mov (.t 8)),
 OG 30 28 true (.bin .lss (.t 29) (.c (I 0))),
 OG 31 28 true (.mov (.t 30)),
 OG 32 31 false (.faddr 3 (.t 10)),
 OG 33 31 false (.load K0 (.t 32)),
 OG 34 31 false (.mov (.t 0)),
 OG 35 31 false (.mov (.t 8)),
 OG 36 31 false (.iaddr (K1 19) (.t 34) (.t 35)),
 OG 37 31 false (.faddr 3 (.t 36)),
 OG 38 31 false (.load K0 (.t 37)),
 OG 39 31 false (.bin .gtr (.t 33) (.t 38)),
 OG 40 28 true (.pick (.t 31) (.c (.b true)) (.t 39)),
 O 41 (.pick (.t 28) (.t 40) (.c (.b false)))] [0,1,0,7,15,31,63,31,255,511,1023,2047,4095,8191,16383,32767,16383,16383,212991,475135,999423,2097151,4194303,8388607] [40,39,38,37,36,35,34,33,32,31,30,29,28,27,26,25,24,23,22,21,20,19,10,18]) (
 .cond (.t 41) (.reg [
 mM 42 9,
 mM 8 42] [9,42])
 (.skip))))) (
 .reg [
 O 43 (.bin .add (.t 13) (.c (I 1))),
 mM 13 43] [43])))
def F30:PF:=⟨3,[.c 6 (K1 19),.t 7],
 sq (.reg [
 O 6 (.alloc (K1 19) (.a [.s [],.s [],.s [],I 0,I 0,I 0,I 0,(.l (K1 2) [] true),(.b false),I 0,I 0,(.b false),(.l (K1 2) [] true),(.b false),I 0,I 0,(.b false),(.l (K1 10) [] true),(.l (K1 6) [] true)])),
 O 7 (.mov (.c (.b false)))] [7]) (
 sq (.reg [
 O 8 (.mov (.c (I (-1))))] []) (
 sq (sq (.reg [
 mM 11 0,
 O 12 (.len false (.t 11)),
 mI 13 0] []) (
 .block 0 (
 .loop [0,1,2,6,8,11,12,13] qko))) (
 sq (sq (.reg [
 mM 44 8,
 O 45 (.bin .lss (.t 44) (.c (I 0)))] [44]) (
 .cond (.t 45) (sq (.reg [
 O 46 (.agg [.s [],.s [],.s [],I 0,I 0,I 0,I 0,(.l (K1 2) [] true),(.b false),I 0,I 0,(.b false),(.l (K1 2) [] true),(.b false),I 0,I 0,(.b false),(.l (K1 10) [] true),(.l (K1 6) [] true)] []),
 E (.store (K1 19) (.t 6) (.t 46)),
 O 7 (.mov (.c (.b false)))] [46]) (
 .ret))
 (.skip))) (
 sq (.reg [
 mM 47 0,
 mM 48 8,
 O 49 (.iaddr (K1 19) (.t 47) (.t 48)),
 O 50 (.load (K1 19) (.t 49)),
 E (.store (K1 19) (.t 6) (.t 50)),
 O 7 (.mov (.c (.b true)))] [50,49,8,48,0,47]) (
 .ret)))))⟩
def F50:PF:=⟨2,[.t 4],
 sq (.reg [
 O 2 (.box K0 (.t 0)),
 O 3 (.box K0 (.t 1)),
 O 4 (.mov (.c .nf))] [4,1,0]) (
 sq (.reg [
 O 5 (.mkf 59 [.t 2,.t 3]),
 mM 4 5] [3,2,5]) (
 .ret))⟩
def qny:PC :=
 sq (.reg [
 O 18 (.bin .lss (.t 17) (.t 16))] []) (
 sq (.cond (.t 18) (.skip)
 (.exit 2)) (
 sq (.block 3 (
 sq (.reg [
 O 19 (.iaddr (K1 3) (.t 15) (.t 17)),
 O 20 (.load (K1 3) (.t 19)),
 O 7 (.alloc (K1 3) (.a [I 0,I 0,.s []])),
 E (.store (K1 3) (.t 7) (.t 20))] [20,19]) (
 sq (.reg [
 mF 21 0 7,
 mL 22 21,
 mL 23 2,
 O 24 (.bin .eql (.t 22) (.t 23)),
 mM 25 24,
 OG 26 25 true (.mov (.t 0)),
 OG 27 25 true (.load (K1 10) (.t 5)),
 OG 28 25 true (.faddr 1 (.t 7)),
 OG 29 25 true (.load K0 (.t 28)),
 OG 30 25 true (.callv (.t 26) [.t 27,.t 29]),
 OG 31 25 true (.un .not (.t 30)),
 O 32 (.pick (.t 25) (.t 31) (.c (.b false)))] [31,30,29,28,27,26,25,24,23,22,7,21]) (
 .cond (.t 32) (.ret)
 (.skip))))) (
 .reg [
 O 33 (.bin .add (.t 17) (.c (I 1))),
 mM 17 33] [33])))
def qne:PC :=
 sq (.reg [
 O 11 (.bin .lss (.t 10) (.t 9))] []) (
 sq (.cond (.t 11) (.skip)
 (.exit 0)) (
 sq (.block 1 (
 sq (.reg [
 O 12 (.iaddr (K1 10) (.t 8) (.t 10)),
 O 13 (.load (K1 10) (.t 12)),
 O 5 (.alloc (K1 10) (.a [I 0,I 0,I 0,I 0,I 0,I 0,.s [],.s [],(.l (K1 3) [] true),(.i .u64 0)])),
 E (.store (K1 10) (.t 5) (.t 13))] [13,12]) (
 sq (.reg [
 mF 14 8 5,
 mL 15 14,
 O 16 (.len false (.t 15)),
 mI 17 0] [14]) (
 .block 2 (
 .loop [0,2,5,8,9,10,15,16,17] qny))))) (
 .reg [
 O 34 (.bin .add (.t 10) (.c (I 1))),
 mM 10 34] [34])))
def F59:PF:=⟨3,[],
 sq (.reg [
 mL 8 1,
 O 9 (.len false (.t 8)),
 mI 10 0] [1]) (
 .block 0 (
 .loop [0,2,8,9,10] qne))⟩
def qvN:PF:=qhE (K1 3)
def quj:PF:=qhE (K1 4)
def qj2:PF:=⟨3,[.t 6,.t 7],
 sq (.reg [
 O 3 (.box (K1 22) (.t 0)),
 mI 6 0,
 mI 7 0] [7,6,0]) (
 sq (.reg [
 O 11 (.load (K1 22) (.t 3)),
 mM 12 1,
 mM 13 2,
 O 14 (.call 0 719 [.t 11,.t 12,.t 13]),
 mM 10 14,
 mX 15 10 0,
 mX 16 10 1,
 mM 8 15,
 mM 9 16] [16,15,10,14,13,12,11]) (
 sq (sq (.reg [
 mM 17 9,
 O 18 (.bin .neq (.t 17) (.c (I 0)))] [17]) (
 .cond (.t 18) (sq (.reg [
 mM 19 9,
 mI 6 0,
 mM 7 19] [9,19]) (
 .ret))
 (.skip))) (
 sq (.regD [
 mF 20 19 3,
 mL 21 20,
 mM 22 1,
 O 23 (.call 0 715 [.t 21,.t 22]),
 mM 24 8,
 O 25 (.bin .sub (.t 23) (.t 24)),
 mF 26 20 3,
 mL 27 26,
 mM 28 1,
 mM 29 2,
 O 30 (.call 0 716 [.t 27,.t 28,.t 29]),
 O 31 (.bin .sub (.t 25) (.t 30)),
 mF 32 21 3,
 mL 33 32,
 mM 34 1,
 mM 35 2,
 O 36 (.call 0 720 [.t 33,.t 34,.t 35]),
 O 37 (.bin .sub (.t 31) (.t 36)),
 mM 6 37,
 mI 7 0] [0,1,0,7,0,31,0,64,0,0,975,2047,0,4096,0,0,63439,131071,262143,524287] [37,36,35,34,33,32,31,30,2,29,28,27,26,25,8,24,23,1,22,21,3,20]) (
 .ret))))⟩
def qp2:PC :=
 .reg [
 mM 7 12] [12]
def qsr:PC :=
 .block 1 (
 .reg [
 mL 13 5,
 mM 14 7,
 O 15 (.bin .sub (.t 13) (.t 14)),
 E (.store K0 (.t 5) (.t 15))] [15,7,14,5,13])
def qld:PF:=⟨2,[.t 4],
 sq (.reg [
 mI 4 0] [4]) (
 sq (.reg [
 O 5 (.alloc K0 (I 0)),
 E (.store K0 (.t 5) (.c (I 0)))] []) (
 sq (sq (.reg [
 mM 8 0,
 mM 9 1,
 O 10 (.call 2 50 [.t 8,.t 9])] [1,9,0,8]) (
 .block 0 (
 .rng (.t 10) 100012 [11,12] [5] qp2 qsr))) (
 sq (.reg [
 mL 16 5,
 mM 4 16] [5,16]) (
 .ret))))⟩
def qmb:PC :=
 sq (.reg [
 O 13 (.bin .lss (.t 12) (.t 11))] []) (
 sq (.cond (.t 13) (.skip)
 (.exit 0)) (
 sq (.block 1 (
 sq (.reg [
 O 14 (.iaddr (K1 6) (.t 10) (.t 12)),
 O 15 (.load (K1 6) (.t 14)),
 O 9 (.alloc (K1 6) (.a [I 0,I 0,I 0,I 0,I 0,.s []])),
 E (.store (K1 6) (.t 9) (.t 15))] [15,14]) (
 sq (.reg [
 mF 16 1 9,
 mL 17 16,
 mM 18 1,
 O 19 (.bin .eql (.t 17) (.t 18)),
 mM 20 19,
 OG 21 20 true (.faddr 3 (.t 9)),
 OG 22 20 true (.load K0 (.t 21)),
 OG 23 20 true (.mov (.t 2)),
 OG 24 20 true (.bin .leq (.t 22) (.t 23)),
 O 25 (.pick (.t 20) (.t 24) (.c (.b false))),
 mM 26 25,
 OG 27 26 true (.mov (.t 2)),
 OG 28 26 true (.faddr 4 (.t 9)),
 OG 29 26 true (.load K0 (.t 28)),
 OG 30 26 true (.bin .leq (.t 27) (.t 29)),
 O 31 (.pick (.t 26) (.t 30) (.c (.b false)))] [30,29,28,27,26,25,24,23,22,21,20,19,18,17,16]) (
 .cond (.t 31) (.reg [
 mM 32 7,
 mF 33 2 9,
 mL 34 33,
 O 35 (.bin .add (.t 32) (.t 34)),
 mM 7 35] [35,34,9,33,32])
 (.skip))))) (
 .reg [
 O 36 (.bin .add (.t 12) (.c (I 1))),
 mM 12 36] [36])))
def qkK:PF:=⟨3,[.t 6],
 sq (.reg [
 mI 6 0] [6]) (
 sq (.reg [
 mI 7 0] []) (
 sq (sq (.reg [
 mM 10 0,
 O 11 (.len false (.t 10)),
 mI 12 0] [0]) (
 .block 0 (
 .loop [1,2,7,10,11,12] qmb))) (
 sq (.reg [
 mM 37 7,
 mM 6 37] [7,37]) (
 .ret))))⟩
def qhL:PF:=⟨3,[.t 6,.t 7],
 sq (.reg [
 O 3 (.box (K1 22) (.t 0)),
 mI 6 0,
 mI 7 0] [7,6,0]) (
 sq (.reg [
 O 13 (.load (K1 22) (.t 3)),
 mM 14 1,
 O 15 (.call 0 12 [.t 13,.t 14]),
 mM 12 15,
 mX 16 12 0,
 mX 17 12 1,
 O 8 (.alloc (K1 7) (.a [I 0,I 0,I 0,I 0,.s [],.s [],.s []])),
 E (.store (K1 7) (.t 8) (.t 16)),
 mM 9 17] [17,16,12,15,14,13]) (
 sq (.reg [
 O 19 (.load (K1 22) (.t 3)),
 mM 20 1,
 mM 21 2,
 O 22 (.call 0 24 [.t 19,.t 20,.t 21]),
 mM 18 22,
 mX 23 18 0,
 mX 24 18 1,
 O 10 (.alloc (K1 19) (.a [.s [],.s [],.s [],I 0,I 0,I 0,I 0,(.l (K1 2) [] true),(.b false),I 0,I 0,(.b false),(.l (K1 2) [] true),(.b false),I 0,I 0,(.b false),(.l (K1 10) [] true),(.l (K1 6) [] true)])),
 E (.store (K1 19) (.t 10) (.t 23)),
 mM 11 24] [24,23,18,22,2,21,1,20,3,19]) (
 sq (sq (.reg [
 mM 25 9,
 O 26 (.un .not (.t 25)),
 mM 27 26,
 OG 28 27 false (.mov (.t 11)),
 OG 29 27 false (.un .not (.t 28)),
 O 30 (.pick (.t 27) (.c (.b true)) (.t 29))] [29,11,28,27,26,9,25]) (
 .cond (.t 30) (sq (.reg [
 mI 6 0,
 mI 7 11] []) (
 .ret))
 (.skip))) (
 sq (.reg [
 mF 31 5 10,
 mL 32 31,
 mF 33 3 8,
 mL 34 33,
 O 35 (.bin .add (.t 32) (.t 34)),
 O 36 (.un .neg (.t 35)),
 mM 6 36,
 mI 7 0] [36,35,34,8,33,32,10,31]) (
 .ret)))))⟩
def qjY:PC :=
 sq (.reg [
 O 18 (.bin .lss (.t 17) (.t 16))] []) (
 sq (.cond (.t 18) (.skip)
 (.exit 0)) (
 sq (.block 1 (
 sq (.reg [
 O 19 (.iaddr (K1 7) (.t 15) (.t 17)),
 O 20 (.load (K1 7) (.t 19)),
 O 9 (.alloc (K1 7) (.a [I 0,I 0,I 0,I 0,I 0,I 0,.s []])),
 E (.store (K1 7) (.t 9) (.t 20))] [20,19]) (
 sq (.reg [
 O 22 (.load (K1 7) (.t 9)),
 O 23 (.call 0 804 [.t 22]),
 O 24 (.tas 111 (.a [I 0]) true (.t 23)),
 mM 21 24,
 mX 25 21 0,
 mX 26 21 1,
 O 10 (.alloc (K1 1) (.a [I 0])),
 E (.store (K1 1) (.t 10) (.t 25)),
 mM 11 26] [26,25,21,24,23,9,22]) (
 sq (.reg [
 mM 27 11] [11]) (
 .cond (.t 27) (.reg [
 mM 28 7,
 mF 29 0 10,
 mL 30 29,
 O 31 (.bin .add (.t 28) (.t 30)),
 mM 7 31] [31,30,10,29,28])
 (.skip)))))) (
 .reg [
 O 32 (.bin .add (.t 17) (.c (I 1))),
 mM 17 32] [32])))
def qjh:PF:=⟨3,[.t 6],
 sq (.reg [
 mI 6 0] [6]) (
 sq (.reg [
 mI 7 0] []) (
 sq (sq (.reg [
 mM 12 0,
 mM 13 1,
 mM 14 2,
 O 15 (.call 0 803 [.t 12,.t 13,.t 14]),
 O 16 (.len false (.t 15)),
 mI 17 0] [2,14,1,13,0,12]) (
 .block 0 (
 .loop [7,15,16,17] qjY))) (
 sq (.reg [
 mM 33 7,
 mM 6 33] [7,33]) (
 .ret))))⟩
def qwp:PF:=qhE (K1 7)
def qig:PC :=
 sq (.reg [
 O 13 (.bin .lss (.t 12) (.t 11))] []) (
 sq (.cond (.t 13) (.skip)
 (.exit 0)) (
 sq (.block 1 (
 sq (.reg [
 O 14 (.iaddr (K1 7) (.t 10) (.t 12)),
 O 15 (.load (K1 7) (.t 14)),
 O 9 (.alloc (K1 7) (.a [I 0,I 0,I 0,I 0,I 0,I 0,.s []])),
 E (.store (K1 7) (.t 9) (.t 15))] [15,14]) (
 sq (.reg [
 mF 16 1 9,
 mL 17 16,
 mM 18 1,
 O 19 (.bin .eql (.t 17) (.t 18)),
 mM 20 19,
 OG 21 20 true (.faddr 4 (.t 9)),
 OG 22 20 true (.load K0 (.t 21)),
 OG 23 20 true (.mov (.t 2)),
 OG 24 20 true (.bin .leq (.t 22) (.t 23)),
 O 25 (.pick (.t 20) (.t 24) (.c (.b false))),
 mM 26 25,
 OG 27 26 true (.mov (.t 2)),
 OG 28 26 true (.faddr 5 (.t 9)),
 OG 29 26 true (.load K0 (.t 28)),
 OG 30 26 true (.bin .leq (.t 27) (.t 29)),
 O 31 (.pick (.t 26) (.t 30) (.c (.b false)))] [30,29,28,27,26,25,24,23,22,21,20,19,18,17,16]) (
 .cond (.t 31) (.reg [
 mM 32 7,
 O 33 (.load (K1 7) (.t 9)),
 O 34 (.bsl (K1 7) (.a [I 0,I 0,I 0,I 0,I 0,I 0,.s []]) 1 [(0,(.t 33))]),
 O 35 (.app (K1 7) 64 (.t 32) (.t 34)),
 mM 7 35] [35,34,9,33,32])
 (.skip))))) (
 .reg [
 O 36 (.bin .add (.t 12) (.c (I 1))),
 mM 12 36] [36])))
def qkE:PF:=⟨3,[.t 6],
 sq (.reg [
 O 6 (.mov (.c (.l (K1 7) [] true)))] [6]) (
 sq (.reg [
 O 7 (.mov (.c (.l (K1 7) [] true)))] []) (
 sq (sq (.reg [
 mM 10 0,
 O 11 (.len false (.t 10)),
 mI 12 0] [0]) (
 .block 0 (
 .loop [1,2,7,10,11,12] qig))) (
 sq (.reg [
 mM 37 7,
 mM 6 37] [7,37]) (
 .ret))))⟩
def qjr:PF:=⟨1,[.t 2],
 sq (.reg [
 O 1 (.box (K1 7) (.t 0)),
 O 2 (.mov (.c .ni))] [2,0]) (
 sq (sq (.reg [
 mF 3 2 1,
 mL 4 3] [3]) (
 .block 0 (
 sq (.reg [
 O 6 (.bin .eql (.t 4) (.c (I 1))),
 mM 5 6] [6]) (
 .cond (.t 5) (sq (.reg [
 O 7 (.agg [] []),
 O 8 (.mkif 171 (.t 7)),
 mM 2 8] [8,7]) (
 .ret))
 (sq (.reg [
 O 10 (.bin .eql (.t 4) (.c (I 2))),
 mM 9 10] [10]) (
 .cond (.t 9) (sq (.reg [
 O 11 (.agg [] []),
 O 12 (.mkif 172 (.t 11)),
 mM 2 12] [12,11]) (
 .ret))
 (sq (.reg [
 O 14 (.bin .eql (.t 4) (.c (I 3))),
 mM 13 14] [14]) (
 .cond (.t 13) (sq (.reg [
 O 15 (.agg [] []),
 O 16 (.mkif 173 (.t 15)),
 mM 2 16] [16,15]) (
 .ret))
 (sq (.reg [
 O 18 (.bin .eql (.t 4) (.c (I 4))),
 mM 17 18] [4,18]) (
 .cond (.t 17) (sq (.reg [
 mF 19 3 1,
 mL 20 19,
 O 21 (.agg [I 0] [(0,K0,(.t 20))]),
 O 22 (.mkif 111 (.t 21)),
 mM 2 22] [22,21,20,1,19]) (
 .ret))
 (.skip))))))))))) (
 sq (.reg [
 O 23 (.agg [] []),
 O 24 (.mkif 174 (.t 23)),
 mM 2 24] [24,23]) (
 .ret)))⟩
def qGu:PC :=
 sq (.reg [
 O 10 (.alloc (K1 10) (.a [I 0,I 0,I 0,I 0,I 0,I 0,.s [],.s [],(.l (K1 3) [] true),(.i .u64 0)])),
 E (.store (K1 10) (.t 10) (.t 40))] [40]) (
 .reg [
 mM 11 41] [41])
def qD6:PC :=
 .block 1 (
 sq (.reg [
 mF 42 2 10,
 mL 43 42,
 mL 44 7,
 O 45 (.bin .leq (.t 43) (.t 44))] [7,44,43,42]) (
 .cond (.t 45) (.reg [
 mL 46 9,
 mL 47 6,
 mF 48 2 10,
 mL 49 48,
 O 50 (.minmax true [.t 47,.t 49]),
 mL 51 6,
 O 52 (.bin .sub (.t 50) (.t 51)),
 O 53 (.iaddr K0 (.t 46) (.t 52)),
 mL 54 53,
 mM 55 11,
 O 56 (.bin .sub (.t 54) (.t 55)),
 O 57 (.iaddr K0 (.t 46) (.t 52)),
 E (.store K0 (.t 57) (.t 56))] [57,56,11,55,54,53,52,51,50,49,10,48,6,47,9,46])
 (.skip)))
def qGr:PC :=
 sq (sq (.reg [
 mM 58 12,
 mL 59 9,
 O 60 (.len false (.t 59)),
 O 61 (.bin .lss (.t 58) (.t 60))] [60,59,58]) (
 .cond (.t 61) (.skip)
 (.exit 2))) (
 sq (.block 3 (
 .regD [
 mL 64 9,
 mM 65 12,
 O 66 (.iaddr K0 (.t 64) (.t 65)),
 mL 67 66,
 mL 68 9,
 mM 69 12,
 O 70 (.bin .sub (.t 69) (.c (I 1))),
 O 71 (.iaddr K0 (.t 68) (.t 70)),
 mL 72 71,
 O 73 (.bin .add (.t 67) (.t 72)),
 O 74 (.iaddr K0 (.t 64) (.t 65)),
 E (.store K0 (.t 74) (.t 73))] [0,0,3,7,0,0,32,112,240,511,1023,2047] [74,73,72,71,70,69,68,67,66,65,64])) (
 .reg [
 mM 62 12,
 O 63 (.bin .add (.t 62) (.c (I 1))),
 mM 12 63] [63,62]))
def qvw:PF:=⟨4,[.t 8],
 sq (.reg [
 O 6 (.box K0 (.t 2)),
 O 7 (.box K0 (.t 3)),
 O 8 (.mov (.c (.l K0 [] true)))] [8,3,2]) (
 sq (sq (.reg [
 mL 13 6,
 O 14 (.call 0 22 [.t 13]),
 O 15 (.un .not (.t 14)),
 mM 16 15,
 OG 17 16 false (.load K0 (.t 7)),
 OG 18 16 false (.call 0 22 [.t 17]),
 OG 19 16 false (.un .not (.t 18)),
 O 20 (.pick (.t 16) (.c (.b true)) (.t 19)),
 mM 21 20,
 OG 22 21 false (.load K0 (.t 6)),
 OG 23 21 false (.load K0 (.t 7)),
 OG 24 21 false (.bin .gtr (.t 22) (.t 23)),
 O 25 (.pick (.t 21) (.c (.b true)) (.t 24)),
 mM 26 25,
 OG 27 26 false (.load K0 (.t 7)),
 OG 28 26 false (.load K0 (.t 6)),
 OG 29 26 false (.bin .sub (.t 27) (.t 28)),
 OG 30 26 false (.bin .geq (.t 29) (.c (I 4000))),
 O 31 (.pick (.t 26) (.c (.b true)) (.t 30))] [30,29,28,27,26,25,24,23,22,21,20,19,18,17,16,15,14,13]) (
 .cond (.t 31) (sq (.reg [
 O 8 (.mov (.c (.l K0 [] true)))] []) (
 .ret))
 (.skip))) (
 sq (.reg [
 mL 32 7,
 mL 33 6,
 O 34 (.bin .sub (.t 32) (.t 33)),
 O 35 (.bin .add (.t 34) (.c (I 1))),
 O 36 (.mksl K0 8 (I 0) (.t 35) (.t 35)),
 O 9 (.alloc K0 (.l K0 [] true)),
 E (.store K0 (.t 9) (.t 36))] [36,35,34,33,32]) (
 sq (sq (.reg [
 mM 37 0,
 mM 38 1,
 O 39 (.call 2 50 [.t 37,.t 38])] [1,38,0,37]) (
 .block 0 (
 .rng (.t 39) 100041 [40,41] [6,7,9] qGu qD6))) (
 sq (sq (.reg [
 mI 12 1] []) (
 .block 2 (
 .loop [9,12] qGr))) (
 sq (.reg [
 mL 75 9,
 mM 8 75] [9,75]) (
 .ret))))))⟩
def qzt:PC :=
 sq (.reg [
 O 12 (.alloc (K1 10) (.a [I 0,I 0,I 0,I 0,I 0,I 0,.s [],.s [],(.l (K1 3) [] true),(.i .u64 0)])),
 E (.store (K1 10) (.t 12) (.t 17))] [17]) (
 .reg [
 mM 13 18] [18])
def qGb:PC :=
 .block 1 (
 .block 2 (
 sq (.reg [
 mF 23 1 12,
 mL 24 23,
 mL 25 6,
 O 26 (.bin .lss (.t 24) (.t 25)),
 mM 27 26,
 OG 28 27 false (.faddr 1 (.t 12)),
 OG 29 27 false (.load K0 (.t 28)),
 OG 30 27 false (.load K0 (.t 7)),
 OG 31 27 false (.bin .gtr (.t 29) (.t 30)),
 O 32 (.pick (.t 27) (.c (.b true)) (.t 31)),
 mM 22 32] [32,31,7,30,29,28,27,26,6,25,24,12,23]) (
 .cond (.t 22) (.skip)
 (sq (.reg [
 mM 34 13,
 O 35 (.bin .gtr (.t 34) (.c (I 0))),
 mM 33 35] [35,34]) (
 .cond (.t 33) (.reg [
 mL 36 10,
 mM 37 13,
 O 38 (.bin .add (.t 36) (.t 37)),
 E (.store K0 (.t 10) (.t 38))] [38,13,37,10,36])
 (.reg [
 mL 19 11,
 mM 20 13,
 O 21 (.bin .sub (.t 19) (.t 20)),
 E (.store K0 (.t 11) (.t 21))] [21,13,20,11,19]))))))
def qsW:PF:=⟨4,[.t 8,.t 9],
 sq (.reg [
 O 6 (.box K0 (.t 2)),
 O 7 (.box K0 (.t 3)),
 mI 8 0,
 mI 9 0] [9,8,3,2]) (
 sq (.reg [
 O 10 (.alloc K0 (I 0)),
 O 11 (.alloc K0 (I 0)),
 E (.store K0 (.t 10) (.c (I 0))),
 E (.store K0 (.t 11) (.c (I 0)))] []) (
 sq (sq (.reg [
 mM 14 0,
 mM 15 1,
 O 16 (.call 2 50 [.t 14,.t 15])] [1,15,0,14]) (
 .block 0 (
 .rng (.t 16) 100018 [17,18] [6,7,10,11] qzt qGb))) (
 sq (.regD [
 mL 39 10,
 mL 40 11,
 mM 8 39,
 mM 9 40] [0,0,1,7] [11,40,10,39]) (
 .ret))))⟩
def qF6:PC :=
 sq (.reg [
 O 41 (.bin .lss (.t 40) (.t 39))] []) (
 sq (.cond (.t 41) (.skip)
 (.exit 2)) (
 sq (.block 3 (
 sq (.reg [
 O 42 (.iaddr (K1 3) (.t 38) (.t 40)),
 O 43 (.load (K1 3) (.t 42)),
 O 14 (.alloc (K1 3) (.a [I 0,I 0,.s []])),
 E (.store (K1 3) (.t 14) (.t 43))] [43,42]) (
 sq (.reg [
 mF 44 0 14,
 mL 45 44,
 mM 46 1,
 O 47 (.bin .eql (.t 45) (.t 46))] [46,45,44]) (
 .cond (.t 47) (.reg [
 mM 48 12,
 mF 49 1 14,
 mL 50 49,
 O 51 (.bin .add (.t 48) (.t 50)),
 mM 12 51] [51,50,14,49,48])
 (.skip))))) (
 .reg [
 O 52 (.bin .add (.t 40) (.c (I 1))),
 mM 40 52] [52])))
def qCB:PC :=
 sq (.reg [
 O 19 (.bin .lss (.t 18) (.t 17))] []) (
 sq (.cond (.t 19) (.skip)
 (.exit 0)) (
 sq (.block 1 (
 sq (.reg [
 O 20 (.iaddr (K1 10) (.t 16) (.t 18)),
 O 21 (.load (K1 10) (.t 20)),
 O 11 (.alloc (K1 10) (.a [I 0,I 0,I 0,I 0,I 0,I 0,.s [],.s [],(.l (K1 3) [] true),(.i .u64 0)])),
 E (.store (K1 10) (.t 11) (.t 21))] [21,20]) (
 sq (sq (.reg [
 O 22 (.load (K1 10) (.t 11)),
 O 23 (.call 0 949 [.t 22]),
 O 24 (.un .not (.t 23)),
 mM 25 24,
 OG 26 25 false (.faddr 1 (.t 11)),
 OG 27 25 false (.load K0 (.t 26)),
 OG 28 25 false (.mov (.t 2)),
 OG 29 25 false (.bin .lss (.t 27) (.t 28)),
 O 30 (.pick (.t 25) (.c (.b true)) (.t 29)),
 mM 31 30,
 OG 32 31 false (.faddr 1 (.t 11)),
 OG 33 31 false (.load K0 (.t 32)),
 OG 34 31 false (.mov (.t 3)),
 OG 35 31 false (.bin .gtr (.t 33) (.t 34)),
 O 36 (.pick (.t 31) (.c (.b true)) (.t 35))] [35,34,33,32,31,30,29,28,27,26,25,24,23,22]) (
 .cond (.t 36) (.exit 1)
 (.skip))) (
 sq (.reg [
 mI 12 0] []) (
 sq (sq (.reg [
 mF 37 8 11,
 mL 38 37,
 O 39 (.len false (.t 38)),
 mI 40 0] [11,37]) (
 .block 2 (
 .loop [1,2,3,9,12,16,17,18,38,39,40] qF6))) (
 .reg [
 mM 53 9,
 mM 54 12,
 O 55 (.minmax true [(.c (I 0)),.t 54]),
 O 56 (.bin .add (.t 53) (.t 55)),
 mM 9 56] [56,55,12,54,53])))))) (
 .reg [
 O 57 (.bin .add (.t 18) (.c (I 1))),
 mM 18 57] [57])))
def qnX:PF:=⟨4,[.t 8],
 sq (.reg [
 O 4 (.box (K1 22) (.t 0)),
 mI 8 0] [8,0]) (
 sq (.reg [
 mI 9 0] []) (
 sq (sq (.reg [
 mF 15 19 4,
 mL 16 15,
 O 17 (.len false (.t 16)),
 mI 18 0] [4,15]) (
 .block 0 (
 .loop [1,2,3,9,16,17,18] qCB))) (
 sq (.reg [
 mM 58 9,
 mM 8 58] [9,58]) (
 .ret))))⟩
def qr2:PF:=⟨1,[.t 2],
 sq (.reg [
 O 1 (.box (K1 10) (.t 0)),
 O 2 (.mov (.c (.b false)))] [2,0]) (
 sq (sq (.reg [
 mF 3 3 1,
 mL 4 3] [3]) (
 .block 0 (
 sq (sq (.reg [
 O 6 (.bin .eql (.t 4) (.c (I 2))),
 mM 5 6] [6]) (
 .cond (.t 5) (.skip)
 (sq (.reg [
 O 7 (.bin .eql (.t 4) (.c (I 3))),
 mM 5 7] [7]) (
 .cond (.t 5) (.skip)
 (sq (.reg [
 O 8 (.bin .eql (.t 4) (.c (I 9))),
 mM 5 8] [8]) (
 .cond (.t 5) (.skip)
 (.reg [
 O 9 (.bin .eql (.t 4) (.c (I 14))),
 mM 5 9] [4,9]))))))) (
 .cond (.t 5) (sq (.reg [
 mF 10 4 1,
 mL 11 10,
 O 12 (.bin .eql (.t 11) (.c (I 0))),
 mM 2 12] [12,11,1,10]) (
 .ret))
 (.skip))))) (
 sq (.reg [
 O 2 (.mov (.c (.b false)))] []) (
 .ret)))⟩
def qwJ:PF:=⟨0,[.t 0],
 sq (.reg [
 O 0 (.mov (.c (.b false)))] [0]) (
 sq (.reg [
 O 11 (.call 0 1097 []),
 O 1 (.alloc (K1 22) (.a [(.l (K1 2) [] true),(.l (K1 3) [] true),(.l (K1 4) [] true),I 0,I 0,I 0,I 0,I 0,I 0,I 0,I 0,I 0,I 0,I 0,I 0,I 0,I 0,(.l (K1 19) [] true),(.l (K1 7) [] true),(.l (K1 10) [] true),(.l (K1 6) [] true),(.l (K1 7) [] true)])),
 E (.store (K1 22) (.t 1) (.t 11))] [11]) (
 sq (.reg [
 O 13 (.load (K1 22) (.t 1)),
 O 14 (.call 0 801 [.t 13,(.c (I 1000)),(.c (I 10)),(.c (I 7))]),
 mM 12 14,
 mX 15 12 0,
 mX 16 12 1,
 mM 2 15,
 mM 3 16] [16,15,12,14,13]) (
 sq (.reg [
 O 18 (.load (K1 22) (.t 1)),
 O 19 (.call 0 719 [.t 18,(.c (I 1000)),(.c (I 10))]),
 mM 17 19,
 mX 20 17 0,
 mX 21 17 1,
 mM 4 20,
 mM 5 21] [21,20,17,19,18]) (
 sq (.reg [
 O 23 (.load (K1 22) (.t 1)),
 O 24 (.call 0 634 [.t 23,(.c (I 1000)),(.c (I 10))]),
 mM 22 24,
 mX 25 22 0,
 mX 26 22 1,
 mM 6 25,
 mM 7 26] [26,25,22,24,23]) (
 sq (.reg [
 O 28 (.load (K1 22) (.t 1)),
 O 29 (.call 0 634 [.t 28,(.c (I 1000)),(.c (I 11))]),
 mM 27 29,
 mX 30 27 0,
 mX 31 27 1,
 mM 8 30,
 mM 9 31] [31,30,27,29,28]) (
 sq (sq (.reg [
 mM 32 3,
 O 33 (.bin .neq (.t 32) (.c (I 0))),
 mM 34 33,
 OG 35 34 false (.mov (.t 2)),
 OG 36 34 false (.len false (.t 35)),
 OG 37 34 false (.bin .neq (.t 36) (.c (I 7))),
 O 38 (.pick (.t 34) (.c (.b true)) (.t 37)),
 mM 39 38,
 OG 40 39 false (.mov (.t 2)),
 OG 41 39 false (.iaddr (K1 2) (.t 40) (.c (I 0))),
 OG 42 39 false (.faddr 1 (.t 41)),
 OG 43 39 false (.load K0 (.t 42)),
 OG 44 39 false (.bin .neq (.t 43) (.c (I 300))),
 O 45 (.pick (.t 39) (.c (.b true)) (.t 44)),
 mM 46 45,
 OG 47 46 false (.mov (.t 2)),
 OG 48 46 false (.iaddr (K1 2) (.t 47) (.c (I 1))),
 OG 49 46 false (.faddr 1 (.t 48)),
 OG 50 46 false (.load K0 (.t 49)),
 OG 51 46 false (.bin .neq (.t 50) (.c (I 0))),
 O 52 (.pick (.t 46) (.c (.b true)) (.t 51)),
 mM 53 52,
 OG 54 53 false (.mov (.t 2)),
 OG 55 53 false (.iaddr (K1 2) (.t 54) (.c (I 2))),
 OG 56 53 false (.faddr 1 (.t 55)),
 OG 57 53 false (.load K0 (.t 56)),
 OG 58 53 false (.bin .neq (.t 57) (.c (I 0))),
 O 59 (.pick (.t 53) (.c (.b true)) (.t 58)),
 mM 60 59,
 OG 61 60 false (.mov (.t 2)),
 OG 62 60 false (.iaddr (K1 2) (.t 61) (.c (I 3))),
 OG 63 60 false (.faddr 1 (.t 62)),
 OG 64 60 false (.load K0 (.t 63)),
 OG 65 60 false (.bin .neq (.t 64) (.c (I 7))),
 O 66 (.pick (.t 60) (.c (.b true)) (.t 65)),
 mM 67 66,
 OG 68 67 false (.mov (.t 2)),
 OG 69 67 false (.iaddr (K1 2) (.t 68) (.c (I 4))),
 OG 70 67 false (.faddr 1 (.t 69)),
 OG 71 67 false (.load K0 (.t 70)),
 OG 72 67 false (.bin .neq (.t 71) (.c (I 1))),
 O 73 (.pick (.t 67) (.c (.b true)) (.t 72)),
 mM 74 73,
 OG 75 74 false (.mov (.t 2)),
 OG 76 74 false (.iaddr (K1 2) (.t 75) (.c (I 5))),
 OG 77 74 false (.faddr 1 (.t 76)),
 OG 78 74 false (.load K0 (.t 77)),
 OG 79 74 false (.bin .neq (.t 78) (.c (I 5))),
 O 80 (.pick (.t 74) (.c (.b true)) (.t 79)),
 mM 81 80,
 OG 82 81 false (.mov (.t 2)),
 OG 83 81 false (.iaddr (K1 2) (.t 82) (.c (I 6))),
 OG 84 81 false (.faddr 1 (.t 83)),
 OG 85 81 false (.load K0 (.t 84)),
 OG 86 81 false (.bin .neq (.t 85) (.c (I 10))),
 O 87 (.pick (.t 81) (.c (.b true)) (.t 86)),
 mM 88 87,
 OG 89 88 false (.mov (.t 2)),
 OG 90 88 false (.iaddr (K1 2) (.t 89) (.c (I 6))),
 OG 91 88 false (.faddr 0 (.t 90)),
 OG 92 88 false (.load K0 (.t 91)),
 OG 93 88 false (.bin .neq (.t 92) (.c (I 4))),
 O 94 (.pick (.t 88) (.c (.b true)) (.t 93))] [93,92,91,90,89,88,87,86,85,84,83,82,81,80,79,78,77,76,75,74,73,72,71,70,69,68,67,66,65,64,63,62,61,60,59,58,57,56,55,54,53,52,51,50,49,48,47,46,45,44,43,42,41,40,39,38,37,36,2,35,34,33,3,32]) (
 .cond (.t 94) (sq (.reg [
 O 0 (.mov (.c (.b false)))] []) (
 .ret))
 (.skip))) (
 sq (.reg [
 O 95 (.call 0 1097 []),
 O 10 (.alloc (K1 22) (.a [(.l (K1 2) [] true),(.l (K1 3) [] true),(.l (K1 4) [] true),I 0,I 0,I 0,I 0,I 0,I 0,I 0,I 0,I 0,I 0,I 0,I 0,I 0,I 0,(.l (K1 19) [] true),(.l (K1 7) [] true),(.l (K1 10) [] true),(.l (K1 6) [] true),(.l (K1 7) [] true)])),
 E (.store (K1 22) (.t 10) (.t 95))] [95]) (
 sq (.reg [
 O 96 (.agg [I 0,I 0,I 0,I 0,I 0,I 0,.s []] [(0,K0,(.c (I 1))),(1,K0,(.c (I 1000))),(2,K0,(.c (I 2))),(4,K0,(.c (I 0))),(5,K0,(.c (I 10))),(6,K0,(.c (.s [99,111,117,114,116])))]),
 O 97 (.bsl (K1 7) (.a [I 0,I 0,I 0,I 0,I 0,I 0,.s []]) 1 [(0,(.t 96))]),
 mF 98 21 10,
 E (.store K0 (.t 98) (.t 97))] [98,97,96]) (
 sq (.regD [
 mM 99 4,
 O 100 (.bin .eql (.t 99) (.c (I (-500)))),
 mM 101 100,
 OG 102 101 true (.mov (.t 5)),
 OG 103 101 true (.bin .eql (.t 102) (.c (I 0))),
 O 104 (.pick (.t 101) (.t 103) (.c (.b false))),
 mM 105 104,
 OG 106 105 true (.mov (.t 6)),
 OG 107 105 true (.bin .eql (.t 106) (.c (I 700))),
 O 108 (.pick (.t 105) (.t 107) (.c (.b false))),
 mM 109 108,
 OG 110 109 true (.mov (.t 7)),
 OG 111 109 true (.bin .eql (.t 110) (.c (I 0))),
 O 112 (.pick (.t 109) (.t 111) (.c (.b false))),
 mM 113 112,
 OG 114 113 true (.mov (.t 8)),
 OG 115 113 true (.bin .eql (.t 114) (.c (I 800))),
 O 116 (.pick (.t 113) (.t 115) (.c (.b false))),
 mM 117 116,
 OG 118 117 true (.mov (.t 9)),
 OG 119 117 true (.bin .eql (.t 118) (.c (I 0))),
 O 120 (.pick (.t 117) (.t 119) (.c (.b false))),
 mM 121 120,
 OG 122 121 true (.load (K1 22) (.t 1)),
 OG 123 121 true (.call 0 1098 [(.c (I 600))]),
 OG 124 121 true (.call 0 674 [.t 122,.t 123]),
 OG 125 121 true (.bin .eql (.t 124) (.c (I 0))),
 O 126 (.pick (.t 121) (.t 125) (.c (.b false))),
 mM 127 126,
 OG 128 127 true (.load (K1 22) (.t 1)),
 OG 129 127 true (.call 0 1098 [(.c (I 601))]),
 OG 130 127 true (.call 0 674 [.t 128,.t 129]),
 OG 131 127 true (.bin .eql (.t 130) (.c (I 20))),
 O 132 (.pick (.t 127) (.t 131) (.c (.b false))),
 mM 133 132,
 OG 134 133 true (.load (K1 22) (.t 1)),
 OG 135 133 true (.call 0 1098 [(.c (I 701))]),
 OG 136 133 true (.call 0 674 [.t 134,.t 135]),
 OG 137 133 true (.bin .eql (.t 136) (.c (I 18))),
 O 138 (.pick (.t 133) (.t 137) (.c (.b false))),
 mM 139 138,
 OG 140 139 true (.load (K1 22) (.t 10)),
 OG 141 139 true (.call 0 1098 [(.c (I 1))]),
 OG 142 139 true (.call 0 674 [.t 140,.t 141]),
 OG 143 139 true (.bin .eql (.t 142) (.c (I 19))),
 O 144 (.pick (.t 139) (.t 143) (.c (.b false))),
 mM 145 144,
 OG 146 145 true (.load (K1 22) (.t 10)),
 OG 147 145 true (.call 0 1098 [(.c (I (-1)))]),
 OG 148 145 true (.call 0 674 [.t 146,.t 147]),
 OG 149 145 true (.bin .eql (.t 148) (.c (I 0))),
 O 150 (.pick (.t 145) (.t 149) (.c (.b false))),
 mM 151 150,
 OG 152 151 true (.load (K1 22) (.t 1)),
 OG 153 151 true (.call 0 918 [.t 152,(.c (I 1000)),(.c (I 0)),(.c (I 10))]),
 OG 154 151 true (.bin .eql (.t 153) (.c (I 0))),
 O 155 (.pick (.t 151) (.t 154) (.c (.b false))),
 mM 0 155] [0,1,3,7,15,31,63,127,255,511,1023,2047,4095,8191,16383,32767,65535,131071,262143,524287,1048575,2097151,4194303,8388607,8388607,33554431,67108863,134217727,268435455,536870911,536870911,2147483647,4294967295,8589934591,17179869183,34359738367,34359738367,137438953471,274877906943,549755813887,1099511627775,2199023255551,2199023255551,8796093022207,17592186044415,35184372088831,70368744177663,140737488355327,140737488355327,562949953421311,1125899906842623,2251799813685247,4503599627370495,9007199254740991,18014398509481983,36028797018963967,72057594037927935,144115188075855871] [155,154,153,152,151,150,149,148,147,146,145,144,143,142,141,10,140,139,138,137,136,135,134,133,132,131,130,129,128,127,126,125,124,123,1,122,121,120,119,9,118,117,116,115,8,114,113,112,111,7,110,109,108,107,6,106,105,104,103,5,102,101,100,4,99]) (
 .ret))))))))))⟩
end Go.Sim

