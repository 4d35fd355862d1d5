/- Part 13 of the proof: CbC28A, CbC28D, CbC28DL, CbDg28D, Cb28Dt. -/
import Derived.Test.YtahfohlafjiajaaGreatDoorB7
import Derived.Test.YtahfohlafjiajaaGreatDoorB2
import Derived.Test.YtahfohlafjiajaaGreatDoorB6
import Derived.Test.YtahfohlafjiajaaGreatDoorB8
import Derived.Test.YtahfohlafjiajaaGreatDoorB9
import Derived.Test.YtahfohlafjiajaaGreatDoorB10
import Derived.Test.YtahfohlafjiajaaGreatDoorB11
import Derived.Test.YtahfohlafjiajaaGreatDoorB12
section
open Go Go.Proofs Go.Proofs.YtahfohlafjiajaaGreatDoor
namespace Go.Sim
set_option maxRecDepth 100000
set_option maxHeartbeats 4000000
def F717:PF:=cF Tryz.f9
abbrev qh1:PC:=cL F717.body 0
def qga:PF:=cF Tryz.f24
def qht:PF:=⟨1,[.t 2,.t 3],
 sq (.reg [
 O 1 (.box (K1 11) (.t 0)),
 mI 2 0,
 mI 3 0] [3,2,0]) (
 sq (.reg [
 O 4 (.mov (.f 886))] []) (
 sq (.reg [
 mM 8 4,
 O 9 (.load (K1 11) (.t 1)),
 O 10 (.callv (.t 8) [.t 9]),
 mM 7 10,
 mX 11 7 0,
 mX 12 7 1,
 O 5 (.alloc (K1 2) (.a [I 0,I 0])),
 E (.store (K1 2) (.t 5) (.t 11)),
 mM 6 12] [12,11,7,10,9,4,8]) (
 sq (sq (.reg [
 mM 13 6,
 O 14 (.bin .neq (.t 13) (.c (I 0))),
 mM 15 14,
 OG 16 15 false (.load (K1 2) (.t 5)),
 OG 17 15 false (.agg [I 0,I 0] [(0,K0,(.c (I 5))),(1,K0,(.c (I 1)))]),
 OG 18 15 false (.eqv true [1,1] (.t 16) (.t 17)),
 O 19 (.pick (.t 15) (.c (.b true)) (.t 18))] [18,17,16,15,14,13]) (
 .cond (.t 19) (sq (.reg [
 mM 20 6,
 mI 2 0,
 mM 3 20] [6,20]) (
 .ret))
 (.skip))) (
 sq (.reg [
 O 4 (.mov (.f 887))] []) (
 sq (.reg [
 mM 22 4,
 O 23 (.load (K1 11) (.t 1)),
 O 24 (.callv (.t 22) [.t 23]),
 mM 21 24,
 mX 25 21 0,
 mX 26 21 1,
 E (.store (K1 2) (.t 5) (.t 25)),
 mM 6 26] [26,25,21,24,1,23,4,22]) (
 sq (sq (.reg [
 mM 27 6,
 O 28 (.bin .neq (.t 27) (.c (I 0)))] [27]) (
 .cond (.t 28) (sq (.reg [
 mM 29 6,
 mI 2 0,
 mM 3 29] [6,29]) (
 .ret))
 (.skip))) (
 sq (.reg [
 mF 30 1 5,
 mL 31 30,
 O 32 (.minmax true [(.c (I 0)),.t 31]),
 mM 2 32,
 mI 3 0] [32,31,5,30]) (
 .ret))))))))⟩
def F878:PF:=cF Tryz.f62
abbrev qjK:PC:=cL F878.body 0
def qkZ:PF:=cF Tryz.f71
def qk0:PF:=cF Tryz.f72
def F932:PF:=cF Tryz.f112
abbrev qsL:PC:=cL F932.body 0
def F1124:PF:=cF Tryz.f11
abbrev qoy:PC:=cL F1124.body 0
end Go.Sim
end
section
open Go Go.Proofs Go.Proofs.YtahfohlafjiajaaGreatDoor
namespace Go.Sim
set_option maxRecDepth 100000
set_option maxHeartbeats 4000000
def qjo:PF:=cF Tryz.f3
def qfH:PF:=cF Tryz.f10
def F1136:PF:=cF Tryz.f31
abbrev qiF:PC:=cL F1136.body 0
def F1137:PF:=cF Tryz.f33
abbrev qgb:PC:=cL F1137.body 0
end Go.Sim
end
section
open Go Go.Proofs Go.Proofs.YtahfohlafjiajaaGreatDoor
namespace Go.Sim
set_option maxRecDepth 100000
set_option maxHeartbeats 4000000
end Go.Sim
end
section
open Go.Proofs Go.Proofs.YtahfohlafjiajaaGreatDoor
namespace Go.Sim
noncomputable def F9:PF:=dg Tryz.f14
noncomputable def F14:PF:=qh7 (dg Tryz.f37) [[0,1,5]]
noncomputable def qsD:PF:=qh7 (dg Tryz.f119) [[1,6,7],[1,16,17]]
noncomputable def qsE:PF:=qh7 (dg Tryz.f234) [[1,16,17],[1,33,34]]
noncomputable def qsF:PF:=dg Tryz.f265
noncomputable def qsG:PF:=dg Tryz.f273
noncomputable def qsH:PF:=qh7 (dg Tryz.f277) [[0,3,4,5,6],[0,9,10,12],[0,9,10,11,12],[0,9,10,12]]
noncomputable def qsI:PF:=qh7 (dg Tryz.f12) [[1,2,5,6,12,17,18,43,44,45]]
noncomputable def qsJ:PF:=qh7 (dg Tryz.f147) [[0,10,11,12],[0,4,10,11,12,24,25,26]]
noncomputable def qsw:PF:=qh7 (dg Tryz.f124) [[0,3],[0,3,4]]
noncomputable def qsx:PF:=dg Tryz.f8
noncomputable def qsy:PF:=dg Tryz.f23
noncomputable def qsz:PF:=qh7 (dg Tryz.f15) [[3,6,7,8]]
noncomputable def qsA:PF:=dg Tryz.f56
noncomputable def qsB:PF:=dg Tryz.f57
noncomputable def qsC:PF:=dg Tryz.f58
end Go.Sim
end
section
namespace Go.Sim
noncomputable def tabF:PT :=
 (.bin 881 F881 (.bin 414 qfU (.bin 57 F57 (.bin 37 F37 (.bin 22 F22 (.bin 16 F16 (.bin 12 F12 (.bin 9 F9 .nil .nil) (.bin 14 F14 .nil .nil)) (.bin 19 F19 (.bin 18 F18 .nil .nil) .nil)) (.bin 31 F31 (.bin 30 F30 (.bin 24 F24 .nil .nil) .nil) (.bin 36 F36 (.bin 35 F35 .nil .nil) .nil))) (.bin 47 F47 (.bin 44 F44 (.bin 42 F42 (.bin 39 F39 .nil .nil) (.bin 43 F43 .nil .nil)) (.bin 46 F46 (.bin 45 F45 .nil .nil) .nil)) (.bin 50 F50 (.bin 49 F49 (.bin 48 F48 .nil .nil) .nil) (.bin 56 F56 (.bin 55 F55 .nil .nil) .nil)))) (.bin 371 qsD (.bin 72 F72 (.bin 66 F66 (.bin 59 F59 (.bin 58 F58 .nil .nil) (.bin 65 F65 .nil .nil)) (.bin 71 F71 (.bin 68 F68 .nil .nil) .nil)) (.bin 207 qkK (.bin 74 F74 (.bin 73 F73 .nil .nil) .nil) (.bin 291 qjp (.bin 265 qma .nil .nil) .nil))) (.bin 408 qhS (.bin 405 F405 (.bin 399 qfI (.bin 387 qf8 .nil .nil) (.bin 400 F400 .nil .nil)) (.bin 407 qjq (.bin 406 F406 .nil .nil) .nil)) (.bin 411 F411 (.bin 410 F410 (.bin 409 qhT .nil .nil) .nil) (.bin 413 qkM (.bin 412 qkL .nil .nil) .nil))))) (.bin 446 F446 (.bin 430 qhU (.bin 421 qsE (.bin 418 qeR (.bin 416 qjr (.bin 415 qgJ .nil .nil) (.bin 417 qgK .nil .nil)) (.bin 420 F420 (.bin 419 qmb .nil .nil) .nil)) (.bin 425 F425 (.bin 424 F424 (.bin 422 F422 .nil .nil) .nil) (.bin 429 qjt (.bin 426 qjs .nil .nil) .nil))) (.bin 437 qkO (.bin 434 qhV (.bin 432 qju (.bin 431 qkN .nil .nil) (.bin 433 qf9 .nil .nil)) (.bin 436 qiz (.bin 435 qsF .nil .nil) .nil)) (.bin 441 F441 (.bin 439 qhr (.bin 438 qsG .nil .nil) .nil) (.bin 443 qkP (.bin 442 qsH .nil .nil) .nil)))) (.bin 708 qkS (.bin 544 qjx (.bin 461 qiA (.bin 450 qkR (.bin 449 qkQ .nil .nil) (.bin 460 qjv .nil .nil)) (.bin 512 F512 (.bin 468 qjw .nil .nil) .nil)) (.bin 678 qob (.bin 633 qsI (.bin 603 F603 .nil .nil) .nil) (.bin 684 qiB (.bin 683 F683 .nil .nil) .nil))) (.bin 802 qht (.bin 769 qhs (.bin 717 F717 (.bin 715 qkT .nil .nil) .nil) (.bin 801 F801 (.bin 800 qga .nil .nil) .nil)) (.bin 878 F878 (.bin 860 F860 (.bin 859 F859 .nil .nil) .nil) (.bin 880 qjy (.bin 879 qkU .nil .nil) .nil)))))) (.bin 1041 F1041 (.bin 955 qcd (.bin 924 qk1 (.bin 916 qcH (.bin 885 qkY (.bin 883 qkW (.bin 882 qkV .nil .nil) (.bin 884 qkX .nil .nil)) (.bin 887 qk0 (.bin 886 qkZ .nil .nil) .nil)) (.bin 921 F921 (.bin 920 F920 (.bin 919 qhW .nil .nil) .nil) (.bin 923 qjz (.bin 922 F922 .nil .nil) .nil))) (.bin 947 F947 (.bin 934 qk2 (.bin 932 F932 (.bin 925 F925 .nil .nil) (.bin 933 F933 .nil .nil)) (.bin 946 F946 (.bin 945 qsJ .nil .nil) .nil)) (.bin 952 qhX (.bin 951 qgL (.bin 950 F950 .nil .nil) .nil) (.bin 954 F954 (.bin 953 F953 .nil .nil) .nil)))) (.bin 1023 qit (.bin 984 qgM (.bin 969 qiC (.bin 967 F967 (.bin 966 qfJ .nil .nil) (.bin 968 qoc .nil .nil)) (.bin 983 qcn (.bin 970 qbR .nil .nil) .nil)) (.bin 997 qjB (.bin 996 qjA (.bin 985 qhu .nil .nil) .nil) (.bin 999 qg3 (.bin 998 qhY .nil .nil) .nil))) (.bin 1035 F1035 (.bin 1031 qgI (.bin 1030 F1030 (.bin 1027 F1027 .nil .nil) .nil) (.bin 1034 F1034 (.bin 1033 qkw .nil .nil) .nil)) (.bin 1038 qfT (.bin 1037 F1037 (.bin 1036 F1036 .nil .nil) .nil) (.bin 1040 qsw (.bin 1039 F1039 .nil .nil) .nil))))) (.bin 1069 qkG (.bin 1056 qjl (.bin 1050 qky (.bin 1047 F1047 (.bin 1045 F1045 (.bin 1042 F1042 .nil .nil) (.bin 1046 qkx .nil .nil)) (.bin 1049 F1049 (.bin 1048 F1048 .nil .nil) .nil)) (.bin 1053 qkA (.bin 1052 qjk (.bin 1051 qkz .nil .nil) .nil) (.bin 1055 qkB (.bin 1054 qiu .nil .nil) .nil))) (.bin 1063 qjm (.bin 1060 qkC (.bin 1058 qhq (.bin 1057 qfr .nil .nil) (.bin 1059 qfG .nil .nil)) (.bin 1062 qgr (.bin 1061 qiv .nil .nil) .nil)) (.bin 1066 qkE (.bin 1065 qg2 (.bin 1064 qkD .nil .nil) .nil) (.bin 1068 qiw (.bin 1067 qkF .nil .nil) .nil)))) (.bin 1096 F1096 (.bin 1076 qjn (.bin 1073 qiy (.bin 1071 qkH (.bin 1070 qix .nil .nil) (.bin 1072 qkI .nil .nil)) (.bin 1075 F1075 (.bin 1074 qhR .nil .nil) .nil)) (.bin 1090 F1090 (.bin 1078 qkJ (.bin 1077 F1077 .nil .nil) .nil) (.bin 1095 F1095 (.bin 1094 F1094 .nil .nil) .nil))) (.bin 1128 qsB (.bin 1125 qsy (.bin 1124 F1124 (.bin 1123 qsx .nil .nil) .nil) (.bin 1127 qsA (.bin 1126 qsz .nil .nil) .nil)) (.bin 1133 qfH (.bin 1130 qjo (.bin 1129 qsC .nil .nil) .nil) (.bin 1137 F1137 (.bin 1136 F1136 .nil .nil) .nil)))))))
def xsL:List (Nat×XK):=[(718,.join),(956,.clone (K1 4) 56),(423,.cnt),(440,.par),(451,.ato)]
def rsL:List (Nat×RK):=[]
def gsL:List (Nat×DV×K):=[(0,.a [.i .u64 1,.i .u64 10,.i .u64 100,.i .u64 1000,.i .u64 10000,.i .u64 100000,.i .u64 1000000,.i .u64 10000000,.i .u64 100000000,.i .u64 1000000000,.i .u64 10000000000,.i .u64 100000000000,.i .u64 1000000000000,.i .u64 10000000000000,.i .u64 100000000000000,.i .u64 1000000000000000,.i .u64 10000000000000000,.i .u64 100000000000000000,.i .u64 1000000000000000000,.i .u64 10000000000000000000],some 20),(4,.a (asciiL.map fun z=>.i .u8 z),some 256),(5,.tok 0,none),(6,.tok 1,none)]
noncomputable def TA28D:Tab:=qlH tabF xsL rsL gsL
end Go.Sim
end
