/- Part 8 of the proof: CbA52b. -/
import Derived.Test.YtpjacfiddgajfaaGreatDoorYB2
namespace Go.Sim
def F560 : PF := ⟨3, [.t 4],
 sq (.reg [
 O 3 (.box (K1 10) (.t 0)),
 O 4 (.mov (.c (.b false)))] [4, 0]) (
 sq (sq (.reg [
 O 5 (.faddr 0 (.t 1)),
 O 6 (.load K0 (.t 5)),
 O 7 (.bin .eql (.t 6) (.c (I 9)))] [6, 5]) (
 .cond (.t 7) (sq (.reg [
 O 8 (.faddr 1 (.t 3)),
 O 9 (.load K0 (.t 8)),
 O 10 (.faddr 0 (.t 2)),
 O 11 (.load K0 (.t 10)),
 O 12 (.bin .gtr (.t 9) (.t 11)),
 O 4 (.mov (.t 12))] [12, 11, 2, 10, 9, 3, 8]) (
 .ret))
 (.skip))) (
 sq (.regD [
 O 13 (.faddr 6 (.t 3)),
 O 14 (.load K0 (.t 13)),
 O 15 (.faddr 0 (.t 2)),
 O 16 (.load K0 (.t 15)),
 O 17 (.load (K1 2) (.t 1)),
 O 18 (.call 0 561 [(.t 16), (.t 17)]),
 O 19 (.call 0 207 [(.t 14), (.t 18)]),
 O 4 (.mov (.t 19))] [0, 1, 0, 4, 0, 28, 63, 127] [19, 18, 1, 17, 16, 2, 15, 14, 3, 13]) (
 .ret)))⟩
def F561 : PF := ⟨2, [.t 4],
 sq (.reg [
 O 3 (.box (K1 2) (.t 1)),
 O 4 (.mov (.c (.s [])))] [4, 1]) (
 sq (.regD [
 O 5 (.mov (.t 0)),
 O 6 (.call 0 109 [(.t 5)]),
 O 7 (.bin .add (.c (.s [101, 111, 100, 47])) (.t 6)),
 O 8 (.bin .add (.t 7) (.c (.s [47]))),
 O 9 (.faddr 0 (.t 3)),
 O 10 (.load K0 (.t 9)),
 O 11 (.call 0 109 [(.t 10)]),
 O 12 (.bin .add (.t 8) (.t 11)),
 O 13 (.bin .add (.t 12) (.c (.s [47]))),
 O 14 (.faddr 1 (.t 3)),
 O 15 (.load K0 (.t 14)),
 O 16 (.call 0 109 [(.t 15)]),
 O 17 (.bin .add (.t 13) (.t 16)),
 O 18 (.bin .add (.t 17) (.c (.s [47]))),
 O 4 (.mov (.t 18))] [0, 1, 3, 7, 0, 16, 51, 127, 255, 0, 512, 1651, 4095, 8191, 16383] [18, 17, 16, 15, 14, 13, 12, 11, 10, 3, 9, 8, 7, 6, 0, 5]) (
 .ret))⟩
def F1011 : PF := ⟨2, [.t 4],
 sq (.reg [
 O 3 (.box (K1 2) (.t 1)),
 O 4 (.mov (.c (.s [])))] [4, 1]) (
 sq (.regD [
 O 5 (.mov (.t 0)),
 O 6 (.call 0 517 [(.t 5)]),
 O 7 (.bin .add (.c (.s [101, 111, 100, 47])) (.t 6)),
 O 8 (.bin .add (.t 7) (.c (.s [47]))),
 O 9 (.faddr 0 (.t 3)),
 O 10 (.load K0 (.t 9)),
 O 11 (.call 0 517 [(.t 10)]),
 O 12 (.bin .add (.t 8) (.t 11)),
 O 13 (.bin .add (.t 12) (.c (.s [47]))),
 O 14 (.faddr 1 (.t 3)),
 O 15 (.load K0 (.t 14)),
 O 16 (.call 0 517 [(.t 15)]),
 O 17 (.bin .add (.t 13) (.t 16)),
 O 18 (.bin .add (.t 17) (.c (.s [47]))),
 O 4 (.mov (.t 18))] [0, 1, 3, 7, 0, 16, 51, 127, 255, 0, 512, 1651, 4095, 8191, 16383] [18, 17, 16, 15, 14, 13, 12, 11, 10, 3, 9, 8, 7, 6, 0, 5]) (
 .ret))⟩
end Go.Sim

