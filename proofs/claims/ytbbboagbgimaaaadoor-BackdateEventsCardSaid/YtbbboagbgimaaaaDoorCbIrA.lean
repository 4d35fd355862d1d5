/- The resolved code of functions. Printed by CbGen.lean. -/
import Derived.Test.YtbbboagbgimaaaaDoorCbIr
namespace Go.Sim
/- corebank/corebanklaw30.BackdateEvents -/
def L1_0 : PC :=
  sq (sq (.reg [
        O 20 (.mov (.t 7)),
        O 21 (.mov (.t 0)),
        O 22 (.len false (.t 21)),
        O 23 (.bin .lss (.t 20) (.t 22))] [22, 21, 20]) (
    .cond (.t 23) (.skip)
      (.exit 0))) (
  sq (.block 1 (
      sq (.reg [
          O 26 (.mov (.t 0)),
          O 27 (.mov (.t 7)),
          O 28 (.iaddr (K1 10) (.t 26) (.t 27)),
          O 29 (.faddr 8 (.t 28)),
          O 30 (.load K0 (.t 29)),
          O 31 (.len false (.t 30)),
          O 32 (.bin .gtr (.t 31) (.c (I 20)))] [31, 30, 29, 28, 27, 26]) (
      .cond (.t 32) (sq (.reg [
            O 33 (.call 0 2 []),
            O 6 (.mov (.t 33))] [33]) (
        .ret))
        (.skip)))) (
  .reg [
    O 24 (.mov (.t 7)),
    O 25 (.bin .add (.t 24) (.c (I 1))),
    O 7 (.mov (.t 25))] [25, 24]))
def L1_1 : PC :=
  sq (sq (.reg [
        O 51 (.mov (.t 10)),
        O 52 (.mov (.t 8)),
        O 53 (.len false (.t 52)),
        O 54 (.bin .lss (.t 51) (.t 53))] [53, 52, 51]) (
    .cond (.t 54) (.skip)
      (.exit 2))) (
  sq (.block 3 (
      sq (.regD [
          O 57 (.mov (.t 8)),
          O 58 (.mov (.t 10)),
          O 59 (.iaddr K0 (.t 57) (.t 58)),
          O 60 (.load K0 (.t 59)),
          O 61 (.mov (.t 9)),
          O 62 (.mov (.t 10)),
          O 63 (.iaddr K0 (.t 61) (.t 62)),
          O 64 (.load K0 (.t 63)),
          O 65 (.bin .neq (.t 60) (.t 64))] [64, 63, 62, 61, 60, 59, 58, 57]) (
      .cond (.t 65) (sq (.reg [
            O 6 (.mov (.c (.b false)))] []) (
        .ret))
        (.skip)))) (
  .reg [
    O 55 (.mov (.t 10)),
    O 56 (.bin .add (.t 55) (.c (I 1))),
    O 10 (.mov (.t 56))] [56, 55]))
def F1 : PF := ⟨3, [.t 6],
  sq (.reg [
      O 5 (.box (K1 2) (.t 2)),
      O 6 (.mov (.c (.b false)))] [6, 2]) (
  sq (sq (.reg [
        O 11 (.mov (.t 0)),
        O 12 (.len false (.t 11)),
        O 13 (.bin .gtr (.t 12) (.c (I 100))),
        O 14 (.mov (.t 13)),
        OG 15 14 false (.mov (.t 1)),
        OG 16 14 false (.len false (.t 15)),
        OG 17 14 false (.bin .gtr (.t 16) (.c (I 100))),
        O 18 (.pick (.t 14) (.c (.b true)) (.t 17))] [17, 16, 15, 14, 13, 12, 11]) (
    .cond (.t 18) (sq (.reg [
          O 19 (.call 0 2 []),
          O 6 (.mov (.t 19))] [19]) (
      .ret))
      (.skip))) (
  sq (sq (.reg [
        O 7 (.mov (.c (I 0)))] []) (
    .block 0 (
      .loop [0, 1, 5, 7] L1_0))) (
  sq (.regD [
      O 34 (.mov (.t 1)),
      O 35 (.iaddrA 2 K0 (.t 5) (.c (I 0))),
      O 36 (.load K0 (.t 35)),
      O 37 (.iaddrA 2 K0 (.t 5) (.c (I 1))),
      O 38 (.load K0 (.t 37)),
      O 39 (.call 0 3 [(.t 34), (.t 36), (.t 38)]),
      O 40 (.mov (.t 1)),
      O 41 (.iaddrA 2 K0 (.t 5) (.c (I 0))),
      O 42 (.load K0 (.t 41)),
      O 43 (.iaddrA 2 K0 (.t 5) (.c (I 1))),
      O 44 (.load K0 (.t 43)),
      O 45 (.call 0 4 [(.t 40), (.t 42), (.t 44)]),
      O 8 (.mov (.t 39)),
      O 9 (.mov (.t 45))] [45, 44, 43, 42, 41, 40, 39, 38, 37, 36, 5, 35, 1, 34]) (
  sq (sq (.reg [
        O 46 (.mov (.t 8)),
        O 47 (.len false (.t 46)),
        O 48 (.mov (.t 9)),
        O 49 (.len false (.t 48)),
        O 50 (.bin .neq (.t 47) (.t 49))] [49, 48, 47, 46]) (
    .cond (.t 50) (sq (.reg [
          O 6 (.mov (.c (.b false)))] []) (
      .ret))
      (.skip))) (
  sq (sq (.reg [
        O 10 (.mov (.c (I 0)))] []) (
    .block 2 (
      .loop [0, 8, 9, 10] L1_1))) (
  sq (.reg [
      O 66 (.mov (.t 0)),
      O 67 (.call 0 6 [(.t 66)]),
      O 68 (.mov (.t 0)),
      O 69 (.call 0 7 [(.t 68)]),
      O 70 (.call 0 5 [(.t 67), (.t 69)]),
      O 71 (.mov (.t 70)),
      OG 72 71 true (.call 0 2 []),
      O 73 (.pick (.t 71) (.t 72) (.c (.b false))),
      O 6 (.mov (.t 73))] [73, 72, 71, 70, 69, 68, 67, 0, 66]) (
  .ret)))))))⟩

/- corebank/corebanklaw30.Lives -/
def F2 : PF := ⟨0, [.t 0],
  sq (.reg [
      O 0 (.mov (.c (.b false)))] [0]) (
  sq (.reg [
      O 5 (.agg [(I 0), (I 0), (I 0), (I 0), (I 0), (I 0), (.s []), (.s []), (.l (K1 3) [] true), (.i .u64 0)] [(3, K0, (.c (I 1))), (6, K0, (.c (.s [97])))]),
      O 6 (.agg [(I 0), (I 0), (I 0), (I 0), (I 0), (I 0), (.s []), (.s []), (.l (K1 3) [] true), (.i .u64 0)] [(3, K0, (.c (I 4))), (6, K0, (.c (.s [98])))]),
      O 7 (.agg [(I 0), (I 0), (I 0), (I 0), (I 0), (I 0), (.s []), (.s []), (.l (K1 3) [] true), (.i .u64 0)] [(3, K0, (.c (I 5))), (6, K0, (.c (.s [99])))]),
      O 8 (.agg [(I 0), (I 0), (I 0), (I 0), (I 0), (I 0), (.s []), (.s []), (.l (K1 3) [] true), (.i .u64 0)] [(3, K0, (.c (I 6))), (6, K0, (.c (.s [100])))]),
      O 9 (.bsl (K1 10) (.a [(I 0), (I 0), (I 0), (I 0), (I 0), (I 0), (.s []), (.s []), (.l (K1 3) [] true), (.i .u64 0)]) 4 [(0, (.t 5)), (1, (.t 6)), (2, (.t 7)), (3, (.t 8))]),
      O 1 (.mov (.t 9))] [9, 8, 7, 6, 5]) (
  sq (.reg [
      O 10 (.agg [(I 0), (I 0), (I 0), (I 0), (I 0), (I 0), (I 0), (I 0), (.i .u64 0), (I 0), (.i .u64 0)] [(0, K0, (.c (I 1000))), (2, K0, (.c (I 5)))]),
      O 11 (.agg [(I 0), (I 0), (I 0), (I 0), (I 0), (I 0), (I 0), (I 0), (.i .u64 0), (I 0), (.i .u64 0)] [(0, K0, (.c (I 1001))), (2, K0, (.c (I 9)))]),
      O 12 (.agg [(I 0), (I 0), (I 0), (I 0), (I 0), (I 0), (I 0), (I 0), (.i .u64 0), (I 0), (.i .u64 0)] [(0, K0, (.c (I 1000))), (2, K0, (.c (I 9)))]),
      O 13 (.bsl (K1 11) (.a [(I 0), (I 0), (I 0), (I 0), (I 0), (I 0), (I 0), (I 0), (.i .u64 0), (I 0), (.i .u64 0)]) 3 [(0, (.t 10)), (1, (.t 11)), (2, (.t 12))]),
      O 2 (.mov (.t 13))] [13, 12, 11, 10]) (
  sq (.reg [
      O 14 (.mov (.t 1)),
      O 15 (.call 0 6 [(.t 14)]),
      O 3 (.mov (.t 15))] [15, 1, 14]) (
  sq (.reg [
      O 16 (.mov (.t 2)),
      O 17 (.call 0 3 [(.t 16), (.c (I 1000)), (.c (I 6))]),
      O 4 (.mov (.t 17))] [17, 2, 16]) (
  sq (.reg [
      O 18 (.mov (.t 3)),
      O 19 (.len false (.t 18)),
      O 20 (.bin .eql (.t 19) (.c (I 2))),
      O 21 (.mov (.t 20)),
      OG 22 21 true (.mov (.t 3)),
      OG 23 21 true (.iaddr (K1 10) (.t 22) (.c (I 0))),
      OG 24 21 true (.faddr 6 (.t 23)),
      OG 25 21 true (.load K0 (.t 24)),
      OG 26 21 true (.bin .eql (.t 25) (.c (.s [97]))),
      O 27 (.pick (.t 21) (.t 26) (.c (.b false))),
      O 28 (.mov (.t 27)),
      OG 29 28 true (.mov (.t 3)),
      OG 30 28 true (.iaddr (K1 10) (.t 29) (.c (I 1))),
      OG 31 28 true (.faddr 6 (.t 30)),
      OG 32 28 true (.load K0 (.t 31)),
      OG 33 28 true (.bin .eql (.t 32) (.c (.s [100]))),
      O 34 (.pick (.t 28) (.t 33) (.c (.b false))),
      O 35 (.mov (.t 34)),
      OG 36 35 true (.mov (.t 4)),
      OG 37 35 true (.len false (.t 36)),
      OG 38 35 true (.bin .eql (.t 37) (.c (I 1))),
      O 39 (.pick (.t 35) (.t 38) (.c (.b false))),
      O 40 (.mov (.t 39)),
      OG 41 40 true (.mov (.t 4)),
      OG 42 40 true (.iaddr K0 (.t 41) (.c (I 0))),
      OG 43 40 true (.load K0 (.t 42)),
      OG 44 40 true (.bin .eql (.t 43) (.c (I 2))),
      O 45 (.pick (.t 40) (.t 44) (.c (.b false))),
      O 46 (.mov (.t 45)),
      OG 47 46 true (.agg [(.l (K1 2) [] true), (.l (K1 3) [] true), (.l (K1 4) [] true), (I 0), (I 0), (I 0), (I 0), (I 0), (I 0), (I 0), (I 0), (I 0), (I 0), (I 0), (I 0), (I 0), (I 0), (.l (K1 19) [] true), (.l (K1 7) [] true), (.l (K1 10) [] true), (.l (K1 6) [] true), (.l (K1 7) [] true)] []),
      OG 48 46 true (.call 2 8 [(.t 47), (.c (.l (K1 11) [] true)), (.c (I 1000))]),
      OG 49 46 true (.un .not (.t 48)),
      O 50 (.pick (.t 46) (.t 49) (.c (.b false))),
      O 0 (.mov (.t 50))] [50, 49, 48, 47, 46, 45, 44, 43, 42, 41, 40, 39, 38, 37, 4, 36, 35, 34, 33, 32, 31, 30, 29, 28, 27, 26, 25, 24, 23, 22, 21, 20, 19, 3, 18]) (
  .ret))))))⟩

/- corebank/backdate.Affected -/
def L3_0 : PC :=
  sq (.reg [
      O 13 (.bin .lss (.t 12) (.t 11))] []) (
  sq (.cond (.t 13) (.skip)
      (.exit 0)) (
  sq (.block 1 (
      sq (.reg [
          O 14 (.mov (.t 12)),
          O 15 (.iaddr (K1 11) (.t 10) (.t 12)),
          O 16 (.load (K1 11) (.t 15)),
          O 9 (.alloc (K1 11) (.a [(I 0), (I 0), (I 0), (I 0), (I 0), (I 0), (I 0), (I 0), (.i .u64 0), (I 0), (.i .u64 0)])),
          O 8 (.mov (.t 14)),
          E (.store (K1 11) (.t 9) (.t 16))] [16, 15, 14]) (
      sq (.reg [
          O 17 (.faddr 0 (.t 9)),
          O 18 (.load K0 (.t 17)),
          O 19 (.mov (.t 1)),
          O 20 (.bin .eql (.t 18) (.t 19)),
          O 21 (.mov (.t 20)),
          OG 22 21 true (.faddr 2 (.t 9)),
          OG 23 21 true (.load K0 (.t 22)),
          OG 24 21 true (.mov (.t 2)),
          OG 25 21 true (.bin .geq (.t 23) (.t 24)),
          O 26 (.pick (.t 21) (.t 25) (.c (.b false)))] [25, 24, 23, 22, 21, 20, 19, 18, 9, 17]) (
      .cond (.t 26) (.reg [
          O 27 (.mov (.t 7)),
          O 28 (.mov (.t 8)),
          O 29 (.bsl K0 (I 0) 1 [(0, (.t 28))]),
          O 30 (.app K0 8 (.t 27) (.t 29)),
          O 7 (.mov (.t 30))] [30, 29, 8, 28, 27])
        (.skip))))) (
  .reg [
    O 31 (.bin .add (.t 12) (.c (I 1))),
    O 12 (.mov (.t 31))] [31])))
def F3 : PF := ⟨3, [.t 6],
  sq (.reg [
      O 6 (.mov (.c (.l K0 [] true)))] [6]) (
  sq (.reg [
      O 7 (.mov (.c (.l K0 [] true)))] []) (
  sq (sq (.reg [
        O 10 (.mov (.t 0)),
        O 11 (.len false (.t 10)),
        O 12 (.mov (.c (I 0)))] [0]) (
    .block 0 (
      .loop [1, 2, 7, 10, 11, 12] L3_0))) (
  sq (.reg [
      O 32 (.mov (.t 7)),
      O 6 (.mov (.t 32))] [7, 32]) (
  .ret))))⟩

/- corebank/corebankref30.Affected -/
def L4_0 : PC :=
  sq (sq (.reg [
        O 9 (.mov (.t 8)),
        O 10 (.mov (.t 0)),
        O 11 (.len false (.t 10)),
        O 12 (.bin .lss (.t 9) (.t 11))] [11, 10, 9]) (
    .cond (.t 12) (.skip)
      (.exit 0))) (
  sq (.block 1 (
      sq (.reg [
          O 15 (.mov (.t 0)),
          O 16 (.mov (.t 8)),
          O 17 (.iaddr (K1 11) (.t 15) (.t 16)),
          O 18 (.faddr 0 (.t 17)),
          O 19 (.load K0 (.t 18)),
          O 20 (.mov (.t 1)),
          O 21 (.bin .eql (.t 19) (.t 20)),
          O 22 (.mov (.t 21)),
          OG 23 22 true (.mov (.t 0)),
          OG 24 22 true (.mov (.t 8)),
          OG 25 22 true (.iaddr (K1 11) (.t 23) (.t 24)),
          OG 26 22 true (.faddr 2 (.t 25)),
          OG 27 22 true (.load K0 (.t 26)),
          OG 28 22 true (.mov (.t 2)),
          OG 29 22 true (.bin .geq (.t 27) (.t 28)),
          O 30 (.pick (.t 22) (.t 29) (.c (.b false)))] [29, 28, 27, 26, 25, 24, 23, 22, 21, 20, 19, 18, 17, 16, 15]) (
      .cond (.t 30) (.reg [
          O 31 (.mov (.t 7)),
          O 32 (.mov (.t 8)),
          O 33 (.bsl K0 (I 0) 1 [(0, (.t 32))]),
          O 34 (.app K0 8 (.t 31) (.t 33)),
          O 7 (.mov (.t 34))] [34, 33, 32, 31])
        (.skip)))) (
  .reg [
    O 13 (.mov (.t 8)),
    O 14 (.bin .add (.t 13) (.c (I 1))),
    O 8 (.mov (.t 14))] [14, 13]))
def F4 : PF := ⟨3, [.t 6],
  sq (.reg [
      O 6 (.mov (.c (.l K0 [] true)))] [6]) (
  sq (.reg [
      O 7 (.mov (.c (.l K0 [] true)))] []) (
  sq (sq (.reg [
        O 8 (.mov (.c (I 0)))] []) (
    .block 0 (
      .loop [0, 1, 2, 7, 8] L4_0))) (
  sq (.reg [
      O 35 (.mov (.t 7)),
      O 6 (.mov (.t 35))] [7, 35]) (
  .ret))))⟩

/- corebank/corebanklaw30.sameEntries -/
def L5_0 : PC :=
  sq (sq (.reg [
        O 11 (.mov (.t 5)),
        O 12 (.mov (.t 0)),
        O 13 (.len false (.t 12)),
        O 14 (.bin .lss (.t 11) (.t 13))] [13, 12, 11]) (
    .cond (.t 14) (.skip)
      (.exit 0))) (
  sq (.block 1 (
      sq (.regD [
          O 17 (.mov (.t 0)),
          O 18 (.mov (.t 5)),
          O 19 (.iaddr (K1 10) (.t 17) (.t 18)),
          O 20 (.load (K1 10) (.t 19)),
          O 21 (.mov (.t 1)),
          O 22 (.mov (.t 5)),
          O 23 (.iaddr (K1 10) (.t 21) (.t 22)),
          O 24 (.load (K1 10) (.t 23)),
          O 25 (.call 0 9 [(.t 20), (.t 24)]),
          O 26 (.un .not (.t 25))] [25, 24, 23, 22, 21, 20, 19, 18, 17]) (
      .cond (.t 26) (sq (.reg [
            O 4 (.mov (.c (.b false)))] []) (
        .ret))
        (.skip)))) (
  .reg [
    O 15 (.mov (.t 5)),
    O 16 (.bin .add (.t 15) (.c (I 1))),
    O 5 (.mov (.t 16))] [16, 15]))
def F5 : PF := ⟨2, [.t 4],
  sq (.reg [
      O 4 (.mov (.c (.b false)))] [4]) (
  sq (sq (.reg [
        O 6 (.mov (.t 0)),
        O 7 (.len false (.t 6)),
        O 8 (.mov (.t 1)),
        O 9 (.len false (.t 8)),
        O 10 (.bin .neq (.t 7) (.t 9))] [9, 8, 7, 6]) (
    .cond (.t 10) (sq (.reg [
          O 4 (.mov (.c (.b false)))] []) (
      .ret))
      (.skip))) (
  sq (sq (.reg [
        O 5 (.mov (.c (I 0)))] []) (
    .block 0 (
      .loop [0, 1, 5] L5_0))) (
  sq (.reg [
      O 4 (.mov (.c (.b true)))] []) (
  .ret))))⟩

/- corebank/backdate.Events -/
def L6_0 : PC :=
  sq (.reg [
      O 9 (.bin .lss (.t 8) (.t 7))] []) (
  sq (.cond (.t 9) (.skip)
      (.exit 0)) (
  sq (.block 1 (
      sq (.reg [
          O 10 (.iaddr (K1 10) (.t 6) (.t 8)),
          O 11 (.load (K1 10) (.t 10)),
          O 5 (.alloc (K1 10) (.a [(I 0), (I 0), (I 0), (I 0), (I 0), (I 0), (.s []), (.s []), (.l (K1 3) [] true), (.i .u64 0)])),
          E (.store (K1 10) (.t 5) (.t 11))] [11, 10]) (
      sq (.reg [
          O 12 (.faddr 3 (.t 5)),
          O 13 (.load K0 (.t 12)),
          O 14 (.bin .neq (.t 13) (.c (I 4))),
          O 15 (.mov (.t 14)),
          OG 16 15 true (.faddr 3 (.t 5)),
          OG 17 15 true (.load K0 (.t 16)),
          OG 18 15 true (.bin .neq (.t 17) (.c (I 5))),
          O 19 (.pick (.t 15) (.t 18) (.c (.b false)))] [18, 17, 16, 15, 14, 13, 12]) (
      .cond (.t 19) (.reg [
          O 20 (.mov (.t 3)),
          O 21 (.load (K1 10) (.t 5)),
          O 22 (.call 0 10 [(.t 21)]),
          O 23 (.bsl (K1 10) (.a [(I 0), (I 0), (I 0), (I 0), (I 0), (I 0), (.s []), (.s []), (.l (K1 3) [] true), (.i .u64 0)]) 1 [(0, (.t 22))]),
          O 24 (.app (K1 10) 112 (.t 20) (.t 23)),
          O 3 (.mov (.t 24))] [24, 23, 22, 5, 21, 20])
        (.skip))))) (
  .reg [
    O 25 (.bin .add (.t 8) (.c (I 1))),
    O 8 (.mov (.t 25))] [25])))
def F6 : PF := ⟨1, [.t 2],
  sq (.reg [
      O 2 (.mov (.c (.l (K1 10) [] true)))] [2]) (
  sq (.reg [
      O 3 (.mov (.c (.l (K1 10) [] true)))] []) (
  sq (sq (.reg [
        O 6 (.mov (.t 0)),
        O 7 (.len false (.t 6)),
        O 8 (.mov (.c (I 0)))] [0]) (
    .block 0 (
      .loop [3, 6, 7, 8] L6_0))) (
  sq (.reg [
      O 26 (.mov (.t 3)),
      O 2 (.mov (.t 26))] [3, 26]) (
  .ret))))⟩

/- corebank/corebankref30.Events -/
def L7_0 : PC :=
  sq (sq (.reg [
        O 5 (.mov (.t 4)),
        O 6 (.mov (.t 0)),
        O 7 (.len false (.t 6)),
        O 8 (.bin .lss (.t 5) (.t 7))] [7, 6, 5]) (
    .cond (.t 8) (.skip)
      (.exit 0))) (
  sq (.block 1 (
      sq (.reg [
          O 11 (.mov (.t 0)),
          O 12 (.mov (.t 4)),
          O 13 (.iaddr (K1 10) (.t 11) (.t 12)),
          O 14 (.load (K1 10) (.t 13)),
          O 15 (.call 0 11 [(.t 14)])] [14, 13, 12, 11]) (
      .cond (.t 15) (.reg [
          O 16 (.mov (.t 3)),
          O 17 (.mov (.t 0)),
          O 18 (.mov (.t 4)),
          O 19 (.iaddr (K1 10) (.t 17) (.t 18)),
          O 20 (.load (K1 10) (.t 19)),
          O 21 (.bsl (K1 10) (.a [(I 0), (I 0), (I 0), (I 0), (I 0), (I 0), (.s []), (.s []), (.l (K1 3) [] true), (.i .u64 0)]) 1 [(0, (.t 20))]),
          O 22 (.app (K1 10) 112 (.t 16) (.t 21)),
          O 3 (.mov (.t 22))] [22, 21, 20, 19, 18, 17, 16])
        (.skip)))) (
  .reg [
    O 9 (.mov (.t 4)),
    O 10 (.bin .add (.t 9) (.c (I 1))),
    O 4 (.mov (.t 10))] [10, 9]))
def F7 : PF := ⟨1, [.t 2],
  sq (.reg [
      O 2 (.mov (.c (.l (K1 10) [] true)))] [2]) (
  sq (.reg [
      O 3 (.mov (.c (.l (K1 10) [] true)))] []) (
  sq (sq (.reg [
        O 4 (.mov (.c (I 0)))] []) (
    .block 0 (
      .loop [0, 3, 4] L7_0))) (
  sq (.reg [
      O 23 (.mov (.t 3)),
      O 2 (.mov (.t 23))] [3, 23]) (
  .ret))))⟩

/- corebank/backdate.Clean -/
def L8_0 : PC :=
  sq (.reg [
      O 22 (.bin .lss (.t 21) (.t 20))] []) (
  sq (.cond (.t 22) (.skip)
      (.exit 0)) (
  sq (.block 1 (
      sq (.reg [
          O 23 (.mov (.t 21)),
          O 24 (.iaddr (K1 11) (.t 19) (.t 21)),
          O 25 (.load (K1 11) (.t 24)),
          O 10 (.alloc (K1 11) (.a [(I 0), (I 0), (I 0), (I 0), (I 0), (I 0), (I 0), (I 0), (.i .u64 0), (I 0), (.i .u64 0)])),
          O 9 (.mov (.t 23)),
          E (.store (K1 11) (.t 10) (.t 25))] [25, 24, 23]) (
      sq (.reg [
          O 26 (.faddr 0 (.t 10)),
          O 27 (.load K0 (.t 26)),
          O 28 (.mov (.t 2)),
          O 29 (.bin .eql (.t 27) (.t 28)),
          O 30 (.mov (.t 29)),
          OG 31 30 true (.load (K1 22) (.t 3)),
          OG 32 30 true (.mov (.t 1)),
          OG 33 30 true (.mov (.t 9)),
          OG 34 30 true (.call 2 13 [(.t 31), (.t 32), (.t 33)]),
          OG 35 30 true (.un .not (.t 34)),
          O 36 (.pick (.t 30) (.t 35) (.c (.b false)))] [35, 34, 9, 33, 32, 31, 30, 29, 28, 27, 10, 26]) (
      .cond (.t 36) (sq (.reg [
            O 6 (.mov (.c (.b false)))] []) (
        .ret))
        (.skip))))) (
  .reg [
    O 37 (.bin .add (.t 21) (.c (I 1))),
    O 21 (.mov (.t 37))] [37])))
def F8 : PF := ⟨3, [.t 6],
  sq (.reg [
      O 3 (.box (K1 22) (.t 0)),
      O 6 (.mov (.c (.b false)))] [6, 0]) (
  sq (sq (.reg [
        O 12 (.load (K1 22) (.t 3)),
        O 13 (.mov (.t 2)),
        O 14 (.call 2 12 [(.t 12), (.t 13)]),
        O 11 (.mov (.t 14)),
        O 15 (.ext (.t 11) 0),
        O 16 (.ext (.t 11) 1),
        O 7 (.alloc (K1 7) (.a [(I 0), (I 0), (I 0), (I 0), (.s []), (.s []), (.s [])])),
        E (.store (K1 7) (.t 7) (.t 15)),
        O 8 (.mov (.t 16))] [7, 16, 15, 11, 14, 13, 12]) (
    sq (.reg [
        O 17 (.mov (.t 8)),
        O 18 (.un .not (.t 17))] [8, 17]) (
    .cond (.t 18) (sq (.reg [
          O 6 (.mov (.c (.b false)))] []) (
      .ret))
      (.skip)))) (
  sq (sq (.reg [
        O 19 (.mov (.t 1)),
        O 20 (.len false (.t 19)),
        O 21 (.mov (.c (I 0)))] []) (
    .block 0 (
      .loop [1, 2, 3, 19, 20, 21] L8_0))) (
  sq (.reg [
      O 6 (.mov (.c (.b true)))] []) (
  .ret))))⟩

/- corebank/corebankref19.Same -/
def F9 : PF := ⟨2, [.t 4],
  sq (.reg [
      O 2 (.box (K1 10) (.t 0)),
      O 3 (.box (K1 10) (.t 1)),
      O 4 (.mov (.c (.b false)))] [4, 1, 0]) (
  sq (.reg [
      O 5 (.faddr 0 (.t 2)),
      O 6 (.load K0 (.t 5)),
      O 7 (.faddr 0 (.t 3)),
      O 8 (.load K0 (.t 7)),
      O 9 (.bin .eql (.t 6) (.t 8)),
      O 10 (.mov (.t 9)),
      OG 11 10 true (.faddr 1 (.t 2)),
      OG 12 10 true (.load K0 (.t 11)),
      OG 13 10 true (.faddr 1 (.t 3)),
      OG 14 10 true (.load K0 (.t 13)),
      OG 15 10 true (.bin .eql (.t 12) (.t 14)),
      O 16 (.pick (.t 10) (.t 15) (.c (.b false))),
      O 17 (.mov (.t 16)),
      OG 18 17 true (.faddr 2 (.t 2)),
      OG 19 17 true (.load K0 (.t 18)),
      OG 20 17 true (.faddr 2 (.t 3)),
      OG 21 17 true (.load K0 (.t 20)),
      OG 22 17 true (.bin .eql (.t 19) (.t 21)),
      O 23 (.pick (.t 17) (.t 22) (.c (.b false))),
      O 24 (.mov (.t 23)),
      OG 25 24 true (.faddr 3 (.t 2)),
      OG 26 24 true (.load K0 (.t 25)),
      OG 27 24 true (.faddr 3 (.t 3)),
      OG 28 24 true (.load K0 (.t 27)),
      OG 29 24 true (.bin .eql (.t 26) (.t 28)),
      O 30 (.pick (.t 24) (.t 29) (.c (.b false))),
      O 31 (.mov (.t 30)),
      OG 32 31 true (.faddr 4 (.t 2)),
      OG 33 31 true (.load K0 (.t 32)),
      OG 34 31 true (.faddr 4 (.t 3)),
      OG 35 31 true (.load K0 (.t 34)),
      OG 36 31 true (.bin .eql (.t 33) (.t 35)),
      O 37 (.pick (.t 31) (.t 36) (.c (.b false))),
      O 38 (.mov (.t 37)),
      OG 39 38 true (.faddr 5 (.t 2)),
      OG 40 38 true (.load K0 (.t 39)),
      OG 41 38 true (.faddr 5 (.t 3)),
      OG 42 38 true (.load K0 (.t 41)),
      OG 43 38 true (.bin .eql (.t 40) (.t 42)),
      O 44 (.pick (.t 38) (.t 43) (.c (.b false))),
      O 45 (.mov (.t 44)),
      OG 46 45 true (.faddr 6 (.t 2)),
      OG 47 45 true (.load K0 (.t 46)),
      OG 48 45 true (.faddr 6 (.t 3)),
      OG 49 45 true (.load K0 (.t 48)),
      OG 50 45 true (.bin .eql (.t 47) (.t 49)),
      O 51 (.pick (.t 45) (.t 50) (.c (.b false))),
      O 52 (.mov (.t 51)),
      OG 53 52 true (.faddr 7 (.t 2)),
      OG 54 52 true (.load K0 (.t 53)),
      OG 55 52 true (.faddr 7 (.t 3)),
      OG 56 52 true (.load K0 (.t 55)),
      OG 57 52 true (.bin .eql (.t 54) (.t 56)),
      O 58 (.pick (.t 52) (.t 57) (.c (.b false))),
      O 59 (.mov (.t 58)),
      OG 60 59 true (.faddr 9 (.t 2)),
      OG 61 59 true (.load K0 (.t 60)),
      OG 62 59 true (.faddr 9 (.t 3)),
      OG 63 59 true (.load K0 (.t 62)),
      OG 64 59 true (.bin .eql (.t 61) (.t 63)),
      O 65 (.pick (.t 59) (.t 64) (.c (.b false))),
      O 66 (.mov (.t 65)),
      OG 67 66 true (.faddr 8 (.t 2)),
      OG 68 66 true (.load K0 (.t 67)),
      OG 69 66 true (.faddr 8 (.t 3)),
      OG 70 66 true (.load K0 (.t 69)),
      OG 71 66 true (.call 0 14 [(.t 68), (.t 70)]),
      O 72 (.pick (.t 66) (.t 71) (.c (.b false))),
      O 4 (.mov (.t 72))] [72, 71, 70, 69, 68, 67, 66, 65, 64, 63, 62, 61, 60, 59, 58, 57, 56, 55, 54, 53, 52, 51, 50, 49, 48, 47, 46, 45, 44, 43, 42, 41, 40, 39, 38, 37, 36, 35, 34, 33, 32, 31, 30, 29, 28, 27, 26, 25, 24, 23, 22, 21, 20, 19, 18, 17, 16, 15, 14, 13, 12, 11, 10, 9, 8, 3, 7, 6, 2, 5]) (
  .ret))⟩

/- corebank/clone.Entry -/
def F10 : PF := ⟨1, [.c 2 (K1 10)],
  sq (.reg [
      O 1 (.box (K1 10) (.t 0)),
      O 2 (.alloc (K1 10) (.a [(I 0), (I 0), (I 0), (I 0), (I 0), (I 0), (.s []), (.s []), (.l (K1 3) [] true), (.i .u64 0)]))] [0]) (
  sq (.reg [
      O 3 (.faddr 8 (.t 1)),
      O 4 (.load K0 (.t 3)),
      O 5 (.call 1 15 [(.t 4)]),
      O 6 (.faddr 8 (.t 1)),
      E (.store K0 (.t 6) (.t 5))] [6, 5, 4, 3]) (
  sq (.reg [
      O 7 (.load (K1 10) (.t 1)),
      E (.store (K1 10) (.t 2) (.t 7))] [1, 7]) (
  .ret)))⟩

/- corebank/corebankref30.Event -/
def F11 : PF := ⟨1, [.t 2],
  sq (.reg [
      O 1 (.box (K1 10) (.t 0)),
      O 2 (.mov (.c (.b false)))] [2, 0]) (
  sq (.reg [
      O 3 (.faddr 3 (.t 1)),
      O 4 (.load K0 (.t 3)),
      O 5 (.bin .neq (.t 4) (.c (I 4))),
      O 6 (.mov (.t 5)),
      OG 7 6 true (.faddr 3 (.t 1)),
      OG 8 6 true (.load K0 (.t 7)),
      OG 9 6 true (.bin .neq (.t 8) (.c (I 5))),
      O 10 (.pick (.t 6) (.t 9) (.c (.b false))),
      O 2 (.mov (.t 10))] [10, 9, 8, 7, 6, 5, 4, 1, 3]) (
  .ret))⟩

/- corebank/account.Find -/
def F12 : PF := ⟨2, [.c 4 (K1 7), .t 5],
  sq (.reg [
      O 2 (.box (K1 22) (.t 0)),
      O 4 (.alloc (K1 7) (.a [(I 0), (I 0), (I 0), (I 0), (.s []), (.s []), (.s [])])),
      O 5 (.mov (.c (.b false)))] [5, 0]) (
  sq (.reg [
      O 7 (.load (K1 22) (.t 2)),
      O 8 (.mov (.t 1)),
      O 9 (.call 2 16 [(.t 7), (.t 8)]),
      O 6 (.mov (.t 9))] [9, 1, 8, 7]) (
  sq (sq (.reg [
        O 10 (.mov (.t 6)),
        O 11 (.bin .lss (.t 10) (.c (I 0)))] [10]) (
    .cond (.t 11) (sq (.reg [
          O 12 (.agg [(I 0), (I 0), (I 0), (I 0), (.s []), (.s []), (.s [])] []),
          E (.store (K1 7) (.t 4) (.t 12)),
          O 5 (.mov (.c (.b false)))] [12]) (
      .ret))
      (.skip))) (
  sq (.reg [
      O 13 (.faddr 18 (.t 2)),
      O 14 (.load K0 (.t 13)),
      O 15 (.mov (.t 6)),
      O 16 (.iaddr (K1 7) (.t 14) (.t 15)),
      O 17 (.load (K1 7) (.t 16)),
      E (.store (K1 7) (.t 4) (.t 17)),
      O 5 (.mov (.c (.b true)))] [17, 16, 6, 15, 14, 2, 13]) (
  .ret))))⟩

/- corebank/corebankref19.SameLegs -/
def L14_0 : PC :=
  sq (sq (.reg [
        O 11 (.mov (.t 5)),
        O 12 (.mov (.t 0)),
        O 13 (.len false (.t 12)),
        O 14 (.bin .lss (.t 11) (.t 13))] [13, 12, 11]) (
    .cond (.t 14) (.skip)
      (.exit 0))) (
  sq (.block 1 (
      sq (.regD [
          O 17 (.mov (.t 0)),
          O 18 (.mov (.t 5)),
          O 19 (.iaddr (K1 3) (.t 17) (.t 18)),
          O 20 (.load (K1 3) (.t 19)),
          O 21 (.mov (.t 1)),
          O 22 (.mov (.t 5)),
          O 23 (.iaddr (K1 3) (.t 21) (.t 22)),
          O 24 (.load (K1 3) (.t 23)),
          O 25 (.eqv true [1, 1, 3] (.t 20) (.t 24))] [24, 23, 22, 21, 20, 19, 18, 17]) (
      .cond (.t 25) (sq (.reg [
            O 4 (.mov (.c (.b false)))] []) (
        .ret))
        (.skip)))) (
  .reg [
    O 15 (.mov (.t 5)),
    O 16 (.bin .add (.t 15) (.c (I 1))),
    O 5 (.mov (.t 16))] [16, 15]))
def F14 : PF := ⟨2, [.t 4],
  sq (.reg [
      O 4 (.mov (.c (.b false)))] [4]) (
  sq (sq (.reg [
        O 6 (.mov (.t 0)),
        O 7 (.len false (.t 6)),
        O 8 (.mov (.t 1)),
        O 9 (.len false (.t 8)),
        O 10 (.bin .neq (.t 7) (.t 9))] [9, 8, 7, 6]) (
    .cond (.t 10) (sq (.reg [
          O 4 (.mov (.c (.b false)))] []) (
      .ret))
      (.skip))) (
  sq (sq (.reg [
        O 5 (.mov (.c (I 0)))] []) (
    .block 0 (
      .loop [0, 1, 5] L14_0))) (
  sq (.reg [
      O 4 (.mov (.c (.b true)))] []) (
  .ret))))⟩

/- corebank/account.index -/
def F16 : PF := ⟨2, [.t 4],
  sq (.reg [
      O 2 (.box (K1 22) (.t 0)),
      O 3 (.box K0 (.t 1)),
      O 4 (.mov (.c (I 0)))] [4, 1, 0]) (
  sq (.reg [
      O 5 (.faddr 18 (.t 2)),
      O 6 (.load K0 (.t 5)),
      O 7 (.mkf 19 [(.t 3)]),
      O 8 (.call 2 18 [(.t 6), (.t 7)]),
      O 4 (.mov (.t 8))] [8, 3, 7, 6, 2, 5]) (
  .ret))⟩

/- slices.IndexFunc[[]corebank/api.Account,corebank/api.Account] -/
def L18_0 : PC :=
  sq (.reg [
      O 9 (.bin .lss (.t 8) (.t 7))] []) (
  sq (.cond (.t 9) (.skip)
      (.exit 0)) (
  sq (.block 1 (
      sq (.reg [
          O 10 (.mov (.t 8)),
          O 5 (.mov (.t 10))] [10]) (
      sq (.reg [
          O 11 (.mov (.t 1)),
          O 12 (.mov (.t 0)),
          O 13 (.mov (.t 5)),
          O 14 (.iaddr (K1 7) (.t 12) (.t 13)),
          O 15 (.load (K1 7) (.t 14)),
          O 16 (.callv (.t 11) [(.t 15)])] [15, 14, 13, 12, 11]) (
      .cond (.t 16) (sq (.reg [
            O 17 (.mov (.t 5)),
            O 4 (.mov (.t 17))] [5, 17]) (
        .ret))
        (.skip))))) (
  .reg [
    O 18 (.bin .add (.t 8) (.c (I 1))),
    O 8 (.mov (.t 18))] [18])))
def F18 : PF := ⟨2, [.t 4],
  sq (.reg [
      O 4 (.mov (.c (I 0)))] [4]) (
  sq (sq (.reg [
        O 6 (.mov (.t 0)),
        O 7 (.len false (.t 6)),
        O 8 (.mov (.c (I 0)))] [6]) (
    .block 0 (
      .loop [0, 1, 7, 8] L18_0))) (
  sq (.reg [
      O 4 (.mov (.c (I (-1))))] []) (
  .ret)))⟩
end Go.Sim
