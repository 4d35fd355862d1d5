/- Part 13 of the proof: CbC28A, CbC28D, CbC28E, CbC28EL, CbDg28E, Cb28Et. -/
import Derived.Test.YtahfohlafjiajaaGreatDoorEB7
import Derived.Test.YtahfohlafjiajaaGreatDoorEB2
import Derived.Test.YtahfohlafjiajaaGreatDoorEB6
import Derived.Test.YtahfohlafjiajaaGreatDoorEB8
import Derived.Test.YtahfohlafjiajaaGreatDoorEB9
import Derived.Test.YtahfohlafjiajaaGreatDoorEB10
import Derived.Test.YtahfohlafjiajaaGreatDoorEB11
import Derived.Test.YtahfohlafjiajaaGreatDoorEB12
section
open Go Go.Proofs Go.Proofs.YtahfohlafjiajaaGreatDoor
namespace Go.Sim
set_option maxRecDepth 100000
set_option maxHeartbeats 4000000
def F717:PF:=cF Tryz.f9
abbrev qh7:PC:=cL F717.body 0
def qgf:PF:=cF Tryz.f24
def qhA:PF:=⟨1,[.t 2,.t 3],
 sq (.reg [
 O 1 (.box (K1 11) (.t 0)),
 mI 2 0,
 mI 3 0] [3,2,0]) (
 sq (.reg [
 O 4 (.mov (.f 886))] []) (
 sq (.reg [
 mM 8 4,
 O 9 (.load (K1 11) (.t 1)),
 O 10 (.callv (.t 8) [.t 9]),
 mM 7 10,
 mX 11 7 0,
 mX 12 7 1,
 O 5 (.alloc (K1 2) (.a [I 0,I 0])),
 E (.store (K1 2) (.t 5) (.t 11)),
 mM 6 12] [12,11,7,10,9,4,8]) (
 sq (sq (.reg [
 mM 13 6,
 O 14 (.bin .neq (.t 13) (.c (I 0))),
 mM 15 14,
 OG 16 15 false (.load (K1 2) (.t 5)),
 OG 17 15 false (.agg [I 0,I 0] [(0,K0,(.c (I 5))),(1,K0,(.c (I 1)))]),
 OG 18 15 false (.eqv true [1,1] (.t 16) (.t 17)),
 O 19 (.pick (.t 15) (.c (.b true)) (.t 18))] [18,17,16,15,14,13]) (
 .cond (.t 19) (sq (.reg [
 mM 20 6,
 mI 2 0,
 mM 3 20] [6,20]) (
 .ret))
 (.skip))) (
 sq (.reg [
 O 4 (.mov (.f 887))] []) (
 sq (.reg [
 mM 22 4,
 O 23 (.load (K1 11) (.t 1)),
 O 24 (.callv (.t 22) [.t 23]),
 mM 21 24,
 mX 25 21 0,
 mX 26 21 1,
 E (.store (K1 2) (.t 5) (.t 25)),
 mM 6 26] [26,25,21,24,1,23,4,22]) (
 sq (sq (.reg [
 mM 27 6,
 O 28 (.bin .neq (.t 27) (.c (I 0)))] [27]) (
 .cond (.t 28) (sq (.reg [
 mM 29 6,
 mI 2 0,
 mM 3 29] [6,29]) (
 .ret))
 (.skip))) (
 sq (.reg [
 mF 30 1 5,
 mL 31 30,
 O 32 (.minmax true [(.c (I 0)),.t 31]),
 mM 2 32,
 mI 3 0] [32,31,5,30]) (
 .ret))))))))⟩
def F878:PF:=cF Tryz.f62
abbrev qjV:PC:=cL F878.body 0
def qk7:PF:=cF Tryz.f71
def qk8:PF:=cF Tryz.f72
def F932:PF:=cF Tryz.f112
abbrev qsZ:PC:=cL F932.body 0
def qol:PF:=cF Tryz.f11
end Go.Sim
end
section
open Go Go.Proofs Go.Proofs.YtahfohlafjiajaaGreatDoor
namespace Go.Sim
set_option maxRecDepth 100000
set_option maxHeartbeats 4000000
def qfL:PF:=cF Tryz.f10
def F1136:PF:=cF Tryz.f31
abbrev qiP:PC:=cL F1136.body 0
def F1137:PF:=cF Tryz.f33
abbrev qgg:PC:=cL F1137.body 0
end Go.Sim
end
section
open Go Go.Proofs Go.Proofs.YtahfohlafjiajaaGreatDoor
namespace Go.Sim
set_option maxRecDepth 100000
set_option maxHeartbeats 4000000
def F633:PF:=cF Tryz.f12
abbrev qiQ:PC:=cL F633.body 0
def F1126:PF:=cF Tryz.f15
abbrev qoJ:PC:=cL F1126.body 0
def qiI:PF:=cF Tryz.f4
def F1134:PF:=cF Tryz.f13
abbrev qmt:PC:=cL F1134.body 0
def F1135:PF:=cF Tryz.f16
abbrev qoK:PC:=cL F1135.body 0
def F1138:PF:=cF Tryz.f36
abbrev qmu:PC:=cL F1138.body 0
end Go.Sim
end
section
open Go Go.Proofs Go.Proofs.YtahfohlafjiajaaGreatDoor
namespace Go.Sim
set_option maxRecDepth 100000
set_option maxHeartbeats 4000000
end Go.Sim
end
section
open Go.Proofs Go.Proofs.YtahfohlafjiajaaGreatDoor
namespace Go.Sim
noncomputable def qsS:PF:=qll (dg Tryz.f119) [[1,6,7],[1,16,17]]
noncomputable def qsT:PF:=qll (dg Tryz.f234) [[1,16,17],[1,33,34]]
noncomputable def qsU:PF:=dg Tryz.f265
noncomputable def qsV:PF:=dg Tryz.f273
noncomputable def qsW:PF:=qll (dg Tryz.f277) [[0,3,4,5,6],[0,9,10,12],[0,9,10,11,12],[0,9,10,12]]
noncomputable def qsX:PF:=qll (dg Tryz.f147) [[0,10,11,12],[0,4,10,11,12,24,25,26]]
noncomputable def qsM:PF:=qll (dg Tryz.f124) [[0,3],[0,3,4]]
noncomputable def qsN:PF:=dg Tryz.f8
noncomputable def qsO:PF:=dg Tryz.f23
noncomputable def qsP:PF:=dg Tryz.f56
noncomputable def qsQ:PF:=dg Tryz.f57
noncomputable def qsR:PF:=dg Tryz.f58
end Go.Sim
end
section
namespace Go.Sim
noncomputable def tabF:PT :=
 (.bin 882 qk3 (.bin 414 qfX (.bin 57 F57 (.bin 37 F37 (.bin 22 F22 (.bin 16 F16 (.bin 12 F12 (.bin 9 F9 .nil .nil) (.bin 14 F14 .nil .nil)) (.bin 19 F19 (.bin 18 F18 .nil .nil) .nil)) (.bin 31 F31 (.bin 30 F30 (.bin 24 F24 .nil .nil) .nil) (.bin 36 F36 (.bin 35 F35 .nil .nil) .nil))) (.bin 47 F47 (.bin 44 F44 (.bin 42 F42 (.bin 39 F39 .nil .nil) (.bin 43 F43 .nil .nil)) (.bin 46 F46 (.bin 45 F45 .nil .nil) .nil)) (.bin 50 F50 (.bin 49 F49 (.bin 48 F48 .nil .nil) .nil) (.bin 56 F56 (.bin 55 F55 .nil .nil) .nil)))) (.bin 371 qsS (.bin 72 F72 (.bin 66 F66 (.bin 59 F59 (.bin 58 F58 .nil .nil) (.bin 65 F65 .nil .nil)) (.bin 71 F71 (.bin 68 F68 .nil .nil) .nil)) (.bin 207 qkS (.bin 74 F74 (.bin 73 F73 .nil .nil) .nil) (.bin 291 qjA (.bin 265 qml .nil .nil) .nil))) (.bin 408 qhY (.bin 405 F405 (.bin 399 qfM (.bin 387 qgd .nil .nil) (.bin 400 F400 .nil .nil)) (.bin 407 qjB (.bin 406 F406 .nil .nil) .nil)) (.bin 411 F411 (.bin 410 F410 (.bin 409 qhZ .nil .nil) .nil) (.bin 413 qkU (.bin 412 qkT .nil .nil) .nil))))) (.bin 446 F446 (.bin 430 qh0 (.bin 421 qsT (.bin 418 qe7 (.bin 416 qjC (.bin 415 qgO .nil .nil) (.bin 417 qgP .nil .nil)) (.bin 420 F420 (.bin 419 qmm .nil .nil) .nil)) (.bin 425 F425 (.bin 424 F424 (.bin 422 F422 .nil .nil) .nil) (.bin 429 qjE (.bin 426 qjD .nil .nil) .nil))) (.bin 437 qkW (.bin 434 qh1 (.bin 432 qjF (.bin 431 qkV .nil .nil) (.bin 433 qge .nil .nil)) (.bin 436 qiJ (.bin 435 qsU .nil .nil) .nil)) (.bin 441 F441 (.bin 439 qhy (.bin 438 qsV .nil .nil) .nil) (.bin 443 qkX (.bin 442 qsW .nil .nil) .nil)))) (.bin 708 qk0 (.bin 544 qjI (.bin 461 qiK (.bin 450 qkZ (.bin 449 qkY .nil .nil) (.bin 460 qjG .nil .nil)) (.bin 512 F512 (.bin 468 qjH .nil .nil) .nil)) (.bin 678 qom (.bin 633 F633 (.bin 603 F603 .nil .nil) .nil) (.bin 684 qiL (.bin 683 F683 .nil .nil) .nil))) (.bin 859 F859 (.bin 800 qgf (.bin 717 F717 (.bin 715 qk1 .nil .nil) (.bin 769 qhz .nil .nil)) (.bin 802 qhA (.bin 801 F801 .nil .nil) .nil)) (.bin 879 qk2 (.bin 878 F878 (.bin 860 F860 .nil .nil) .nil) (.bin 881 F881 (.bin 880 qjJ .nil .nil) .nil)))))) (.bin 1045 F1045 (.bin 966 qfN (.bin 925 F925 (.bin 919 qh2 (.bin 886 qk7 (.bin 884 qk5 (.bin 883 qk4 .nil .nil) (.bin 885 qk6 .nil .nil)) (.bin 916 qeD (.bin 887 qk8 .nil .nil) .nil)) (.bin 922 F922 (.bin 921 F921 (.bin 920 F920 .nil .nil) .nil) (.bin 924 qk9 (.bin 923 qjK .nil .nil) .nil))) (.bin 950 F950 (.bin 945 qsX (.bin 933 F933 (.bin 932 F932 .nil .nil) (.bin 934 qla .nil .nil)) (.bin 947 F947 (.bin 946 F946 .nil .nil) .nil)) (.bin 953 F953 (.bin 952 qh3 (.bin 951 qgQ .nil .nil) .nil) (.bin 955 qce (.bin 954 F954 .nil .nil) .nil)))) (.bin 1027 F1027 (.bin 985 qhB (.bin 970 qbS (.bin 968 qon (.bin 967 F967 .nil .nil) (.bin 969 qiM .nil .nil)) (.bin 984 qgR (.bin 983 qcn .nil .nil) .nil)) (.bin 998 qh4 (.bin 997 qjM (.bin 996 qjL .nil .nil) .nil) (.bin 1023 qiC (.bin 999 qg7 .nil .nil) .nil))) (.bin 1037 F1037 (.bin 1034 F1034 (.bin 1031 qgN (.bin 1030 F1030 .nil .nil) (.bin 1033 qkE .nil .nil)) (.bin 1036 F1036 (.bin 1035 F1035 .nil .nil) .nil)) (.bin 1040 qsM (.bin 1039 F1039 (.bin 1038 qfW .nil .nil) .nil) (.bin 1042 F1042 (.bin 1041 F1041 .nil .nil) .nil))))) (.bin 1071 qkP (.bin 1058 qhx (.bin 1052 qjw (.bin 1049 F1049 (.bin 1047 F1047 (.bin 1046 qkF .nil .nil) (.bin 1048 F1048 .nil .nil)) (.bin 1051 qkH (.bin 1050 qkG .nil .nil) .nil)) (.bin 1055 qkJ (.bin 1054 qiD (.bin 1053 qkI .nil .nil) .nil) (.bin 1057 qff (.bin 1056 qjx .nil .nil) .nil))) (.bin 1065 qg6 (.bin 1062 qgv (.bin 1060 qkK (.bin 1059 qfK .nil .nil) (.bin 1061 qiE .nil .nil)) (.bin 1064 qkL (.bin 1063 qjy .nil .nil) .nil)) (.bin 1068 qiF (.bin 1067 qkN (.bin 1066 qkM .nil .nil) .nil) (.bin 1070 qiG (.bin 1069 qkO .nil .nil) .nil)))) (.bin 1124 qol (.bin 1078 qkR (.bin 1075 F1075 (.bin 1073 qiH (.bin 1072 qkQ .nil .nil) (.bin 1074 qhX .nil .nil)) (.bin 1077 F1077 (.bin 1076 qjz .nil .nil) .nil)) (.bin 1095 F1095 (.bin 1094 F1094 (.bin 1090 F1090 .nil .nil) .nil) (.bin 1123 qsN (.bin 1096 F1096 .nil .nil) .nil))) (.bin 1133 qfL (.bin 1128 qsQ (.bin 1126 F1126 (.bin 1125 qsO .nil .nil) (.bin 1127 qsP .nil .nil)) (.bin 1131 qiI (.bin 1129 qsR .nil .nil) .nil)) (.bin 1136 F1136 (.bin 1135 F1135 (.bin 1134 F1134 .nil .nil) .nil) (.bin 1138 F1138 (.bin 1137 F1137 .nil .nil) .nil)))))))
def xsL:List (Nat×XK):=[(718,.join),(956,.clone (K1 4) 56),(423,.cnt),(440,.par),(451,.ato)]
def rsL:List (Nat×RK):=[]
def gsL:List (Nat×DV×K):=[(0,.a [.i .u64 1,.i .u64 10,.i .u64 100,.i .u64 1000,.i .u64 10000,.i .u64 100000,.i .u64 1000000,.i .u64 10000000,.i .u64 100000000,.i .u64 1000000000,.i .u64 10000000000,.i .u64 100000000000,.i .u64 1000000000000,.i .u64 10000000000000,.i .u64 100000000000000,.i .u64 1000000000000000,.i .u64 10000000000000000,.i .u64 100000000000000000,.i .u64 1000000000000000000,.i .u64 10000000000000000000],some 20),(4,.a (asciiL.map fun z=>.i .u8 z),some 256),(5,.tok 0,none),(6,.tok 1,none)]
noncomputable def TA28E:Tab:=qlR tabF xsL rsL gsL
end Go.Sim
end
