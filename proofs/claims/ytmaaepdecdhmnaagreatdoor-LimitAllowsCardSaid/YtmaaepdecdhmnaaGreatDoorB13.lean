/- Part 13 of the proof. -/
import Derived.Test.YtmaaepdecdhmnaaGreatDoorB7
import Derived.Test.YtmaaepdecdhmnaaGreatDoorB2
import Derived.Test.YtmaaepdecdhmnaaGreatDoorB6
import Derived.Test.YtmaaepdecdhmnaaGreatDoorB8
import Derived.Test.YtmaaepdecdhmnaaGreatDoorB9
import Derived.Test.YtmaaepdecdhmnaaGreatDoorB10
import Derived.Test.YtmaaepdecdhmnaaGreatDoorB11
import Derived.Test.YtmaaepdecdhmnaaGreatDoorB12
namespace Go.Sim
set_option maxRecDepth 100000
set_option maxHeartbeats 8000000
section
open Go.Proofs Go.Proofs.YtmaaepdecdhmnaaGreatDoor
def qlO:PF:=cF Tryz.f148
def F1017:PF:=cF Tryz.f8
abbrev qne:PC:=cL F1017.body 0
def qgG:PF:=cF Tryz.f29
def F1021:PF:=cF Tryz.f69
abbrev qi9:PC:=cL F1021.body 0
def F1024:PF:=cF Tryz.f72
abbrev qij:PC:=cL F1024.body 0
def qi1:PF:=cF Tryz.f3
noncomputable def qtK:PF:=ql6 (dg Tryz.f113) [[1,6,7],[1,16,17]]
noncomputable def qtL:PF:=ql6 (dg Tryz.f239) [[1,16,17],[1,33,34]]
noncomputable def qtM:PF:=dg Tryz.f279
noncomputable def qtN:PF:=dg Tryz.f288
noncomputable def qtO:PF:=ql6 (dg Tryz.f292) [[0,3,4,5,6],[0,9,10,12],[0,9,10,11,12],[0,9,10,12]]
noncomputable def qtP:PF:=ql6 (dg Tryz.f144) [[0,10,11,12],[0,4,10,11,12,24,25,26]]
noncomputable def qtG:PF:=ql6 (dg Tryz.f155) [[0,3],[0,3,4]]
noncomputable def qtH:PF:=dg Tryz.f6
noncomputable def qtI:PF:=dg Tryz.f21
noncomputable def qtJ:PF:=dg Tryz.f24
end
noncomputable def tabF:PT :=
 (.bin 858 F858 (.bin 411 F411 (.bin 68 F68 (.bin 44 F44 (.bin 31 F31 (.bin 19 F19 (.bin 16 F16 (.bin 12 F12 .nil .nil) (.bin 18 F18 .nil .nil)) (.bin 24 F24 (.bin 22 F22 .nil .nil) (.bin 30 F30 .nil .nil))) (.bin 39 F39 (.bin 36 F36 (.bin 35 F35 .nil .nil) (.bin 37 F37 .nil .nil)) (.bin 43 F43 (.bin 42 F42 .nil .nil) .nil))) (.bin 55 F55 (.bin 48 F48 (.bin 46 F46 (.bin 45 F45 .nil .nil) (.bin 47 F47 .nil .nil)) (.bin 50 F50 (.bin 49 F49 .nil .nil) .nil)) (.bin 59 F59 (.bin 57 F57 (.bin 56 F56 .nil .nil) (.bin 58 F58 .nil .nil)) (.bin 66 F66 (.bin 65 F65 .nil .nil) .nil)))) (.bin 341 F341 (.bin 181 qlm (.bin 74 F74 (.bin 72 F72 (.bin 71 F71 .nil .nil) (.bin 73 F73 .nil .nil)) (.bin 179 F179 (.bin 110 qll .nil .nil) (.bin 180 F180 .nil .nil))) (.bin 265 qi2 (.bin 262 F262 (.bin 207 qln .nil .nil) (.bin 263 qlo .nil .nil)) (.bin 291 qjW (.bin 268 qlp .nil .nil) .nil))) (.bin 400 F400 (.bin 382 qls (.bin 344 qlr (.bin 342 qlq .nil .nil) (.bin 371 qtK .nil .nil)) (.bin 399 qf9 (.bin 387 qhB .nil .nil) .nil)) (.bin 408 qh8 (.bin 406 F406 (.bin 405 F405 .nil .nil) (.bin 407 qjX .nil .nil)) (.bin 410 F410 (.bin 409 qjY .nil .nil) .nil))))) (.bin 446 F446 (.bin 429 qj1 (.bin 419 qnc (.bin 415 qgI (.bin 413 qlu (.bin 412 qlt .nil .nil) (.bin 414 qfW .nil .nil)) (.bin 417 qgJ (.bin 416 qjZ .nil .nil) (.bin 418 qeK .nil .nil))) (.bin 424 F424 (.bin 421 qtL (.bin 420 F420 .nil .nil) (.bin 422 F422 .nil .nil)) (.bin 426 qj0 (.bin 425 F425 .nil .nil) .nil))) (.bin 436 qi3 (.bin 433 qga (.bin 431 qlv (.bin 430 qh9 .nil .nil) (.bin 432 qj2 .nil .nil)) (.bin 435 qtM (.bin 434 qia .nil .nil) .nil)) (.bin 441 F441 (.bin 438 qtN (.bin 437 qlw .nil .nil) (.bin 439 qhC .nil .nil)) (.bin 443 qlx (.bin 442 qtO .nil .nil) .nil)))) (.bin 715 qlC (.bin 603 qj6 (.bin 461 qi4 (.bin 450 qlz (.bin 449 qly .nil .nil) (.bin 460 qj3 .nil .nil)) (.bin 512 F512 (.bin 468 qj4 .nil .nil) (.bin 544 qj5 .nil .nil))) (.bin 683 F683 (.bin 674 F674 (.bin 634 qlA .nil .nil) (.bin 678 qpb .nil .nil)) (.bin 708 qlB (.bin 684 qi5 .nil .nil) .nil))) (.bin 769 qhD (.bin 724 qnd (.bin 719 qi6 (.bin 716 F716 .nil .nil) (.bin 720 F720 .nil .nil)) (.bin 768 qib (.bin 767 qlD .nil .nil) .nil)) (.bin 855 qlF (.bin 803 F803 (.bin 801 F801 .nil .nil) (.bin 804 qlE .nil .nil)) (.bin 857 qhE (.bin 856 qlG .nil .nil) .nil)))))) (.bin 1030 F1030 (.bin 952 qie (.bin 921 F921 (.bin 884 qlK (.bin 880 qj7 (.bin 860 F860 (.bin 859 F859 .nil .nil) (.bin 879 qlH .nil .nil)) (.bin 882 qlI (.bin 881 F881 .nil .nil) (.bin 883 qlJ .nil .nil))) (.bin 918 F918 (.bin 916 qgK (.bin 885 qlL .nil .nil) (.bin 917 qic .nil .nil)) (.bin 920 F920 (.bin 919 qid .nil .nil) .nil))) (.bin 945 qtP (.bin 925 F925 (.bin 923 qj8 (.bin 922 F922 .nil .nil) (.bin 924 qlM .nil .nil)) (.bin 934 qlN (.bin 933 F933 .nil .nil) .nil)) (.bin 949 qlP (.bin 947 F947 (.bin 946 F946 .nil .nil) (.bin 948 qlO .nil .nil)) (.bin 951 qgL (.bin 950 F950 .nil .nil) .nil)))) (.bin 999 qg3 (.bin 970 qbs (.bin 966 qfI (.bin 954 F954 (.bin 953 F953 .nil .nil) (.bin 955 qbW .nil .nil)) (.bin 968 qpc (.bin 967 F967 .nil .nil) (.bin 969 qi7 .nil .nil))) (.bin 996 qj9 (.bin 984 qgM (.bin 983 qcb .nil .nil) (.bin 985 qhF .nil .nil)) (.bin 998 qif (.bin 997 qka .nil .nil) .nil))) (.bin 1023 qiU (.bin 1020 qk3 (.bin 1018 F1018 (.bin 1017 F1017 .nil .nil) (.bin 1019 qgG .nil .nil)) (.bin 1022 qk4 (.bin 1021 F1021 .nil .nil) .nil)) (.bin 1027 F1027 (.bin 1025 F1025 (.bin 1024 F1024 .nil .nil) (.bin 1026 qiV .nil .nil)) (.bin 1029 F1029 (.bin 1028 F1028 .nil .nil) .nil))))) (.bin 1059 qfH (.bin 1045 F1045 (.bin 1038 qfV (.bin 1034 F1034 (.bin 1032 F1032 (.bin 1031 qgH .nil .nil) (.bin 1033 qk5 .nil .nil)) (.bin 1036 F1036 (.bin 1035 F1035 .nil .nil) (.bin 1037 F1037 .nil .nil))) (.bin 1042 F1042 (.bin 1040 qtG (.bin 1039 F1039 .nil .nil) (.bin 1041 F1041 .nil .nil)) (.bin 1044 F1044 (.bin 1043 qk6 .nil .nil) .nil))) (.bin 1052 qjS (.bin 1049 qk8 (.bin 1047 F1047 (.bin 1046 qk7 .nil .nil) (.bin 1048 F1048 .nil .nil)) (.bin 1051 qla (.bin 1050 qk9 .nil .nil) .nil)) (.bin 1056 qjT (.bin 1054 qiW (.bin 1053 qlb .nil .nil) (.bin 1055 qlc .nil .nil)) (.bin 1058 qhA (.bin 1057 qft .nil .nil) .nil)))) (.bin 1073 qi0 (.bin 1066 qlf (.bin 1063 qjU (.bin 1061 qiX (.bin 1060 qld .nil .nil) (.bin 1062 qgs .nil .nil)) (.bin 1065 qg2 (.bin 1064 qle .nil .nil) .nil)) (.bin 1070 qiZ (.bin 1068 qiY (.bin 1067 qlg .nil .nil) (.bin 1069 qlh .nil .nil)) (.bin 1072 qlj (.bin 1071 qli .nil .nil) .nil))) (.bin 1090 F1090 (.bin 1077 F1077 (.bin 1075 F1075 (.bin 1074 qh7 .nil .nil) (.bin 1076 qjV .nil .nil)) (.bin 1086 qi1 (.bin 1078 qlk .nil .nil) .nil)) (.bin 1096 F1096 (.bin 1094 F1094 (.bin 1091 qtH .nil .nil) (.bin 1095 F1095 .nil .nil)) (.bin 1098 qtJ (.bin 1097 qtI .nil .nil) .nil)))))))
def xsL:List (Nat×XK):=[(423,.cnt),(440,.par),(451,.ato)]
def rsL:List (Nat×RK):=[(264,.ins (K1 3) 32)]
def gsL:List (Nat×DV×K):=[(0,.a [.i .u64 1,.i .u64 10,.i .u64 100,.i .u64 1000,.i .u64 10000,.i .u64 100000,.i .u64 1000000,.i .u64 10000000,.i .u64 100000000,.i .u64 1000000000,.i .u64 10000000000,.i .u64 100000000000,.i .u64 1000000000000,.i .u64 10000000000000,.i .u64 100000000000000,.i .u64 1000000000000000,.i .u64 10000000000000000,.i .u64 100000000000000000,.i .u64 1000000000000000000,.i .u64 10000000000000000000],some 20),(4,.a (asciiL.map fun z=>.i .u8 z),some 256),(5,.tok 0,none),(6,.tok 1,none)]
noncomputable def TA25L:Tab:=qmF tabF xsL rsL gsL
end Go.Sim
