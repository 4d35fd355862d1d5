/- Part 9 of the proof: CbSeat29E. -/
import Derived.Test.YtakfofnggifenaaGreatDoorB8
import Derived.Test.YtakfofnggifenaaGreatDoorProg
open Go Go.Sim Go.RowKit
namespace Go.Proofs.YtakfofnggifenaaGreatDoor
def namesL : List (Nat × Nat × Nat) := [(2, 0, 0), (3, 1115, 0), (4, 1104, 0), (5, 1106, 0), (6, 26, 0), (7, 1116, 0), (8, 1112, 0), (9, 1113, 0), (10, 1117, 0), (11, 1105, 0), (12, 727, 0), (13, 1107, 0), (14, 9, 0), (15, 1111, 0), (16, 20, 0), (17, 788, 0), (18, 1052, 0), (19, 22, 0), (20, 866, 2), (21, 1114, 2), (22, 868, 0), (23, 544, 0), (24, 1118, 0), (25, 1045, 0), (26, 1108, 0), (27, 1109, 0), (28, 1110, 0), (29, 24, 0), (30, 806, 2), (31, 110, 0), (32, 109, 0), (33, 1023, 0), (34, 1018, 0), (35, 776, 0), (36, 14, 0), (37, 12, 0), (38, 21, 0), (39, 23, 0), (40, 25, 0), (41, 27, 0), (42, 28, 0), (43, 147, 1), (44, 867, 2), (45, 869, 0), (46, 787, 0), (47, 65, 0), (48, 1051, 0), (49, 1050, 0), (50, 1096, 0), (51, 919, 0), (52, 30, 0), (53, 179, 1), (54, 180, 2), (55, 181, 0), (56, 178, 0), (57, 683, 0), (58, 603, 0), (59, 1020, 0), (60, 862, 0), (61, 16, 0), (62, 29, 2), (63, 31, 0), (64, 32, 0), (65, 33, 0), (66, 34, 0), (67, 35, 0), (68, 36, 0), (69, 37, 0), (70, 594, 0), (71, 72, 0), (72, 71, 0), (73, 1060, 0), (74, 950, 0), (75, 262, 2), (76, 263, 0), (77, 264, 2), (78, 265, 2), (79, 261, 0), (80, 18, 2), (81, 19, 2), (82, 38, 2), (83, 39, 0), (84, 40, 0), (85, 41, 0), (87, 42, 0), (88, 43, 0), (89, 44, 0), (90, 45, 0), (91, 46, 0), (92, 47, 0), (93, 48, 0), (94, 49, 0), (95, 673, 2), (96, 111, 0), (97, 495, 0), (98, 168, 0), (99, 674, 0), (100, 675, 0), (101, 66, 0), (102, 341, 0), (103, 342, 0), (104, 268, 0), (106, 343, 0), (107, 337, 0), (108, 338, 0), (109, 339, 0), (110, 340, 0), (111, 50, 2), (112, 51, 0), (113, 52, 0), (114, 53, 0), (115, 54, 0), (117, 55, 0), (118, 56, 0), (119, 57, 0), (120, 58, 0), (121, 182, 0), (122, 183, 0), (123, 184, 0), (124, 185, 0), (125, 186, 0), (126, 244, 2), (127, 522, 2), (128, 245, 0), (129, 246, 0), (130, 767, 0), (131, 768, 0), (132, 242, 0), (133, 243, 0), (134, 382, 0), (135, 344, 0), (136, 383, 0), (137, 378, 0), (138, 74, 0), (139, 379, 0), (140, 380, 0), (141, 381, 0), (142, 59, 2), (143, 60, 1), (144, 61, 0), (145, 62, 0), (146, 63, 0), (147, 64, 0), (148, 67, 0), (149, 68, 0), (150, 266, 2), (151, 267, 0), (152, 269, 2), (153, 318, 0), (154, 328, 2), (155, 329, 2), (156, 330, 0), (157, 331, 0), (158, 855, 2), (159, 803, 0), (160, 856, 2), (161, 857, 0), (162, 634, 0), (163, 858, 0), (164, 15, 1), (165, 326, 0), (166, 327, 0), (167, 396, 0), (168, 394, 0), (169, 395, 0), (170, 69, 2), (171, 70, 0), (172, 73, 0), (174, 345, 0), (175, 376, 2), (176, 724, 2), (177, 804, 0), (178, 719, 0), (179, 715, 0), (180, 716, 0), (181, 720, 0), (182, 801, 0), (183, 916, 0), (184, 371, 0), (185, 917, 2), (186, 918, 0), (187, 374, 0), (188, 375, 0), (189, 362, 0), (190, 363, 0), (191, 384, 0), (192, 879, 0), (193, 880, 0), (194, 881, 0), (195, 882, 0), (196, 883, 0), (197, 884, 0), (198, 885, 0), (199, 945, 0), (200, 387, 0), (201, 946, 0), (202, 947, 0), (203, 948, 0), (204, 949, 0), (205, 386, 2), (206, 397, 0), (207, 933, 0), (208, 708, 2), (209, 934, 2), (210, 399, 0), (211, 416, 0), (212, 400, 0), (213, 966, 0), (214, 967, 0), (215, 398, 0), (216, 405, 0), (217, 406, 0), (218, 407, 2), (219, 408, 0), (220, 409, 0), (221, 410, 0), (222, 411, 0), (223, 983, 0), (224, 984, 0), (225, 404, 0), (226, 412, 2), (227, 413, 2), (228, 414, 0), (229, 415, 0), (230, 417, 0), (231, 418, 0), (232, 996, 0), (233, 997, 0), (234, 998, 0), (235, 999, 0), (236, 419, 2), (237, 420, 0), (238, 421, 2), (239, 422, 0), (240, 423, 0), (241, 424, 0), (242, 425, 2), (243, 426, 0), (244, 427, 0), (246, 428, 0), (247, 429, 0), (248, 430, 0), (249, 431, 0), (250, 432, 0), (251, 433, 0), (252, 434, 0), (253, 435, 0), (254, 207, 0), (255, 436, 0), (256, 437, 0), (257, 438, 0), (258, 439, 0), (259, 440, 0), (260, 441, 0), (261, 442, 0), (262, 291, 0), (263, 443, 0), (265, 444, 0), (266, 445, 0), (267, 446, 0), (268, 447, 0), (269, 448, 2), (270, 449, 0), (271, 450, 0), (272, 451, 0), (273, 452, 2), (274, 453, 0), (276, 454, 0), (277, 455, 0), (278, 456, 2), (279, 457, 2), (280, 458, 2), (281, 459, 2), (282, 460, 0), (283, 461, 0), (284, 462, 0), (285, 463, 2), (286, 464, 0), (287, 465, 0), (288, 466, 0), (289, 467, 0), (290, 468, 0), (291, 469, 0), (292, 470, 0), (325, 75, 0)]
def glL : List (Nat × Nat) := [(1, 0), (0, 1), (7, 4)]
noncomputable def nm : Names := { f := nameOf namesL, g := gnum glL }
def cx : Cx := ⟨muOf namesL⟩
set_option maxRecDepth 100000
theorem ok183 : FnOK Tryz.prog nm (cx.μ 183) F183 := ⟨Tryz.f122, _, Tryz.func122, by decide, rfl, by kernel_rfl, by kernel_rfl, by kernel_rfl, by decide⟩
theorem ok46 : FnOK Tryz.prog nm (cx.μ 46) F46 := ⟨Tryz.f91, _, Tryz.func91, by decide, rfl, by kernel_rfl, by kernel_rfl, by kernel_rfl, by decide⟩
theorem ok31 : FnOK Tryz.prog nm (cx.μ 31) F31 := ⟨Tryz.f63, _, Tryz.func63, by decide, rfl, by kernel_rfl, by kernel_rfl, by kernel_rfl, by decide⟩
theorem ok23 : FnOK Tryz.prog nm (cx.μ 23) F23 := ⟨Tryz.f39, _, Tryz.func39, by decide, rfl, by kernel_rfl, by kernel_rfl, by kernel_rfl, by decide⟩
theorem ok19 : FnOK Tryz.prog nm (cx.μ 19) F19 := ⟨Tryz.f81, _, Tryz.func81, by decide, rfl, by kernel_rfl, by kernel_rfl, by kernel_rfl, by decide⟩
theorem ok16 : FnOK Tryz.prog nm (cx.μ 16) F16 := ⟨Tryz.f61, _, Tryz.func61, by decide, rfl, by kernel_rfl, by kernel_rfl, by kernel_rfl, by decide⟩
theorem ok12 : FnOK Tryz.prog nm (cx.μ 12) F12 := ⟨Tryz.f37, _, Tryz.func37, by decide, rfl, by kernel_rfl, by kernel_rfl, by kernel_rfl, by decide⟩
theorem ok18 : FnOK Tryz.prog nm (cx.μ 18) F18 := ⟨Tryz.f80, _, Tryz.func80, by decide, rfl, by kernel_rfl, by kernel_rfl, by kernel_rfl, by decide⟩
theorem ok21 : FnOK Tryz.prog nm (cx.μ 21) F21 := ⟨Tryz.f38, _, Tryz.func38, by decide, rfl, by kernel_rfl, by kernel_rfl, by kernel_rfl, by decide⟩
theorem ok20 : FnOK Tryz.prog nm (cx.μ 20) F20 := ⟨Tryz.f16, _, Tryz.func16, by decide, rfl, by kernel_rfl, by kernel_rfl, by kernel_rfl, by decide⟩
theorem ok22 : FnOK Tryz.prog nm (cx.μ 22) F22 := ⟨Tryz.f19, _, Tryz.func19, by decide, rfl, by kernel_rfl, by kernel_rfl, by kernel_rfl, by decide⟩
theorem ok27 : FnOK Tryz.prog nm (cx.μ 27) F27 := ⟨Tryz.f41, _, Tryz.func41, by decide, rfl, by kernel_rfl, by kernel_rfl, by kernel_rfl, by decide⟩
theorem ok25 : FnOK Tryz.prog nm (cx.μ 25) F25 := ⟨Tryz.f40, _, Tryz.func40, by decide, rfl, by kernel_rfl, by kernel_rfl, by kernel_rfl, by decide⟩
theorem ok24 : FnOK Tryz.prog nm (cx.μ 24) F24 := ⟨Tryz.f29, _, Tryz.func29, by decide, rfl, by kernel_rfl, by kernel_rfl, by kernel_rfl, by decide⟩
theorem ok26 : FnOK Tryz.prog nm (cx.μ 26) F26 := ⟨Tryz.f6, _, Tryz.func6, by decide, rfl, by kernel_rfl, by kernel_rfl, by kernel_rfl, by decide⟩
theorem ok29 : FnOK Tryz.prog nm (cx.μ 29) F29 := ⟨Tryz.f62, _, Tryz.func62, by decide, rfl, by kernel_rfl, by kernel_rfl, by kernel_rfl, by decide⟩
theorem ok28 : FnOK Tryz.prog nm (cx.μ 28) F28 := ⟨Tryz.f42, _, Tryz.func42, by decide, rfl, by kernel_rfl, by kernel_rfl, by kernel_rfl, by decide⟩
theorem ok30 : FnOK Tryz.prog nm (cx.μ 30) F30 := ⟨Tryz.f52, _, Tryz.func52, by decide, rfl, by kernel_rfl, by kernel_rfl, by kernel_rfl, by decide⟩
theorem ok39 : FnOK Tryz.prog nm (cx.μ 39) F39 := ⟨Tryz.f83, _, Tryz.func83, by decide, rfl, by kernel_rfl, by kernel_rfl, by kernel_rfl, by decide⟩
theorem ok35 : FnOK Tryz.prog nm (cx.μ 35) F35 := ⟨Tryz.f67, _, Tryz.func67, by decide, rfl, by kernel_rfl, by kernel_rfl, by kernel_rfl, by decide⟩
theorem ok33 : FnOK Tryz.prog nm (cx.μ 33) F33 := ⟨Tryz.f65, _, Tryz.func65, by decide, rfl, by kernel_rfl, by kernel_rfl, by kernel_rfl, by decide⟩
theorem ok32 : FnOK Tryz.prog nm (cx.μ 32) F32 := ⟨Tryz.f64, _, Tryz.func64, by decide, rfl, by kernel_rfl, by kernel_rfl, by kernel_rfl, by decide⟩
theorem ok34 : FnOK Tryz.prog nm (cx.μ 34) F34 := ⟨Tryz.f66, _, Tryz.func66, by decide, rfl, by kernel_rfl, by kernel_rfl, by kernel_rfl, by decide⟩
theorem ok37 : FnOK Tryz.prog nm (cx.μ 37) F37 := ⟨Tryz.f69, _, Tryz.func69, by decide, rfl, by kernel_rfl, by kernel_rfl, by kernel_rfl, by decide⟩
theorem ok36 : FnOK Tryz.prog nm (cx.μ 36) F36 := ⟨Tryz.f68, _, Tryz.func68, by decide, rfl, by kernel_rfl, by kernel_rfl, by kernel_rfl, by decide⟩
theorem ok38 : FnOK Tryz.prog nm (cx.μ 38) F38 := ⟨Tryz.f82, _, Tryz.func82, by decide, rfl, by kernel_rfl, by kernel_rfl, by kernel_rfl, by decide⟩
theorem ok43 : FnOK Tryz.prog nm (cx.μ 43) F43 := ⟨Tryz.f88, _, Tryz.func88, by decide, rfl, by kernel_rfl, by kernel_rfl, by kernel_rfl, by decide⟩
theorem ok41 : FnOK Tryz.prog nm (cx.μ 41) F41 := ⟨Tryz.f85, _, Tryz.func85, by decide, rfl, by kernel_rfl, by kernel_rfl, by kernel_rfl, by decide⟩
theorem ok40 : FnOK Tryz.prog nm (cx.μ 40) F40 := ⟨Tryz.f84, _, Tryz.func84, by decide, rfl, by kernel_rfl, by kernel_rfl, by kernel_rfl, by decide⟩
theorem ok42 : FnOK Tryz.prog nm (cx.μ 42) F42 := ⟨Tryz.f87, _, Tryz.func87, by decide, rfl, by kernel_rfl, by kernel_rfl, by kernel_rfl, by decide⟩
theorem ok45 : FnOK Tryz.prog nm (cx.μ 45) F45 := ⟨Tryz.f90, _, Tryz.func90, by decide, rfl, by kernel_rfl, by kernel_rfl, by kernel_rfl, by decide⟩
theorem ok44 : FnOK Tryz.prog nm (cx.μ 44) F44 := ⟨Tryz.f89, _, Tryz.func89, by decide, rfl, by kernel_rfl, by kernel_rfl, by kernel_rfl, by decide⟩
theorem ok63 : FnOK Tryz.prog nm (cx.μ 63) F63 := ⟨Tryz.f146, _, Tryz.func146, by decide, rfl, by kernel_rfl, by kernel_rfl, by kernel_rfl, by decide⟩
theorem ok55 : FnOK Tryz.prog nm (cx.μ 55) F55 := ⟨Tryz.f117, _, Tryz.func117, by decide, rfl, by kernel_rfl, by kernel_rfl, by kernel_rfl, by decide⟩
theorem ok51 : FnOK Tryz.prog nm (cx.μ 51) F51 := ⟨Tryz.f112, _, Tryz.func112, by decide, rfl, by kernel_rfl, by kernel_rfl, by kernel_rfl, by decide⟩
theorem ok48 : FnOK Tryz.prog nm (cx.μ 48) F48 := ⟨Tryz.f93, _, Tryz.func93, by decide, rfl, by kernel_rfl, by kernel_rfl, by kernel_rfl, by decide⟩
theorem ok47 : FnOK Tryz.prog nm (cx.μ 47) F47 := ⟨Tryz.f92, _, Tryz.func92, by decide, rfl, by kernel_rfl, by kernel_rfl, by kernel_rfl, by decide⟩
theorem ok50 : FnOK Tryz.prog nm (cx.μ 50) F50 := ⟨Tryz.f111, _, Tryz.func111, by decide, rfl, by kernel_rfl, by kernel_rfl, by kernel_rfl, by decide⟩
theorem ok53 : FnOK Tryz.prog nm (cx.μ 53) F53 := ⟨Tryz.f114, _, Tryz.func114, by decide, rfl, by kernel_rfl, by kernel_rfl, by kernel_rfl, by decide⟩
theorem ok52 : FnOK Tryz.prog nm (cx.μ 52) F52 := ⟨Tryz.f113, _, Tryz.func113, by decide, rfl, by kernel_rfl, by kernel_rfl, by kernel_rfl, by decide⟩
theorem ok54 : FnOK Tryz.prog nm (cx.μ 54) F54 := ⟨Tryz.f115, _, Tryz.func115, by decide, rfl, by kernel_rfl, by kernel_rfl, by kernel_rfl, by decide⟩
theorem ok59 : FnOK Tryz.prog nm (cx.μ 59) F59 := ⟨Tryz.f142, _, Tryz.func142, by decide, rfl, by kernel_rfl, by kernel_rfl, by kernel_rfl, by decide⟩
theorem ok57 : FnOK Tryz.prog nm (cx.μ 57) F57 := ⟨Tryz.f119, _, Tryz.func119, by decide, rfl, by kernel_rfl, by kernel_rfl, by kernel_rfl, by decide⟩
theorem ok56 : FnOK Tryz.prog nm (cx.μ 56) F56 := ⟨Tryz.f118, _, Tryz.func118, by decide, rfl, by kernel_rfl, by kernel_rfl, by kernel_rfl, by decide⟩
theorem ok58 : FnOK Tryz.prog nm (cx.μ 58) F58 := ⟨Tryz.f120, _, Tryz.func120, by decide, rfl, by kernel_rfl, by kernel_rfl, by kernel_rfl, by decide⟩
theorem ok62 : FnOK Tryz.prog nm (cx.μ 62) F62 := ⟨Tryz.f145, _, Tryz.func145, by decide, rfl, by kernel_rfl, by kernel_rfl, by kernel_rfl, by decide⟩
theorem ok61 : FnOK Tryz.prog nm (cx.μ 61) F61 := ⟨Tryz.f144, _, Tryz.func144, by decide, rfl, by kernel_rfl, by kernel_rfl, by kernel_rfl, by decide⟩
theorem ok110 : FnOK Tryz.prog nm (cx.μ 110) F110 := ⟨Tryz.f31, _, Tryz.func31, by decide, rfl, by kernel_rfl, by kernel_rfl, by kernel_rfl, by decide⟩
theorem ok68 : FnOK Tryz.prog nm (cx.μ 68) F68 := ⟨Tryz.f149, _, Tryz.func149, by decide, rfl, by kernel_rfl, by kernel_rfl, by kernel_rfl, by decide⟩
theorem ok65 : FnOK Tryz.prog nm (cx.μ 65) F65 := ⟨Tryz.f47, _, Tryz.func47, by decide, rfl, by kernel_rfl, by kernel_rfl, by kernel_rfl, by decide⟩
theorem ok64 : FnOK Tryz.prog nm (cx.μ 64) F64 := ⟨Tryz.f147, _, Tryz.func147, by decide, rfl, by kernel_rfl, by kernel_rfl, by kernel_rfl, by decide⟩
theorem ok66 : FnOK Tryz.prog nm (cx.μ 66) F66 := ⟨Tryz.f101, _, Tryz.func101, by decide, rfl, by kernel_rfl, by kernel_rfl, by kernel_rfl, by decide⟩
theorem ok71 : FnOK Tryz.prog nm (cx.μ 71) F71 := ⟨Tryz.f72, _, Tryz.func72, by decide, rfl, by kernel_rfl, by kernel_rfl, by kernel_rfl, by decide⟩
theorem ok69 : FnOK Tryz.prog nm (cx.μ 69) F69 := ⟨Tryz.f170, _, Tryz.func170, by decide, rfl, by kernel_rfl, by kernel_rfl, by kernel_rfl, by decide⟩
theorem ok72 : FnOK Tryz.prog nm (cx.μ 72) F72 := ⟨Tryz.f71, _, Tryz.func71, by decide, rfl, by kernel_rfl, by kernel_rfl, by kernel_rfl, by decide⟩
theorem ok180 : FnOK Tryz.prog nm (cx.μ 180) F180 := ⟨Tryz.f54, _, Tryz.func54, by decide, rfl, by kernel_rfl, by kernel_rfl, by kernel_rfl, by decide⟩
theorem ok168 : FnOK Tryz.prog nm (cx.μ 168) F168 := ⟨Tryz.f98, _, Tryz.func98, by decide, rfl, by kernel_rfl, by kernel_rfl, by kernel_rfl, by decide⟩
theorem ok111 : FnOK Tryz.prog nm (cx.μ 111) F111 := ⟨Tryz.f96, _, Tryz.func96, by decide, rfl, by kernel_rfl, by kernel_rfl, by kernel_rfl, by decide⟩
theorem ok179 : FnOK Tryz.prog nm (cx.μ 179) F179 := ⟨Tryz.f53, _, Tryz.func53, by decide, rfl, by kernel_rfl, by kernel_rfl, by kernel_rfl, by decide⟩
theorem ok182 : FnOK Tryz.prog nm (cx.μ 182) F182 := ⟨Tryz.f121, _, Tryz.func121, by decide, rfl, by kernel_rfl, by kernel_rfl, by kernel_rfl, by decide⟩
theorem ok181 : FnOK Tryz.prog nm (cx.μ 181) F181 := ⟨Tryz.f55, _, Tryz.func55, by decide, rfl, by kernel_rfl, by kernel_rfl, by kernel_rfl, by decide⟩
theorem ok382 : FnOK Tryz.prog nm (cx.μ 382) F382 := ⟨Tryz.f134, _, Tryz.func134, by decide, rfl, by kernel_rfl, by kernel_rfl, by kernel_rfl, by decide⟩
theorem ok318 : FnOK Tryz.prog nm (cx.μ 318) F318 := ⟨Tryz.f153, _, Tryz.func153, by decide, rfl, by kernel_rfl, by kernel_rfl, by kernel_rfl, by decide⟩
theorem ok246 : FnOK Tryz.prog nm (cx.μ 246) F246 := ⟨Tryz.f129, _, Tryz.func129, by decide, rfl, by kernel_rfl, by kernel_rfl, by kernel_rfl, by decide⟩
theorem ok242 : FnOK Tryz.prog nm (cx.μ 242) F242 := ⟨Tryz.f132, _, Tryz.func132, by decide, rfl, by kernel_rfl, by kernel_rfl, by kernel_rfl, by decide⟩
theorem ok185 : FnOK Tryz.prog nm (cx.μ 185) F185 := ⟨Tryz.f124, _, Tryz.func124, by decide, rfl, by kernel_rfl, by kernel_rfl, by kernel_rfl, by decide⟩
theorem ok184 : FnOK Tryz.prog nm (cx.μ 184) F184 := ⟨Tryz.f123, _, Tryz.func123, by decide, rfl, by kernel_rfl, by kernel_rfl, by kernel_rfl, by decide⟩
theorem ok186 : FnOK Tryz.prog nm (cx.μ 186) F186 := ⟨Tryz.f125, _, Tryz.func125, by decide, rfl, by kernel_rfl, by kernel_rfl, by kernel_rfl, by decide⟩
theorem ok244 : FnOK Tryz.prog nm (cx.μ 244) F244 := ⟨Tryz.f126, _, Tryz.func126, by decide, rfl, by kernel_rfl, by kernel_rfl, by kernel_rfl, by decide⟩
theorem ok243 : FnOK Tryz.prog nm (cx.μ 243) F243 := ⟨Tryz.f133, _, Tryz.func133, by decide, rfl, by kernel_rfl, by kernel_rfl, by kernel_rfl, by decide⟩
theorem ok245 : FnOK Tryz.prog nm (cx.μ 245) F245 := ⟨Tryz.f128, _, Tryz.func128, by decide, rfl, by kernel_rfl, by kernel_rfl, by kernel_rfl, by decide⟩
theorem ok266 : FnOK Tryz.prog nm (cx.μ 266) F266 := ⟨Tryz.f150, _, Tryz.func150, by decide, rfl, by kernel_rfl, by kernel_rfl, by kernel_rfl, by decide⟩
theorem ok263 : FnOK Tryz.prog nm (cx.μ 263) F263 := ⟨Tryz.f76, _, Tryz.func76, by decide, rfl, by kernel_rfl, by kernel_rfl, by kernel_rfl, by decide⟩
theorem ok262 : FnOK Tryz.prog nm (cx.μ 262) F262 := ⟨Tryz.f75, _, Tryz.func75, by decide, rfl, by kernel_rfl, by kernel_rfl, by kernel_rfl, by decide⟩
theorem ok265 : FnOK Tryz.prog nm (cx.μ 265) F265 := ⟨Tryz.f78, _, Tryz.func78, by decide, rfl, by kernel_rfl, by kernel_rfl, by kernel_rfl, by decide⟩
theorem ok268 : FnOK Tryz.prog nm (cx.μ 268) F268 := ⟨Tryz.f104, _, Tryz.func104, by decide, rfl, by kernel_rfl, by kernel_rfl, by kernel_rfl, by decide⟩
theorem ok267 : FnOK Tryz.prog nm (cx.μ 267) F267 := ⟨Tryz.f151, _, Tryz.func151, by decide, rfl, by kernel_rfl, by kernel_rfl, by kernel_rfl, by decide⟩
theorem ok342 : FnOK Tryz.prog nm (cx.μ 342) F342 := ⟨Tryz.f103, _, Tryz.func103, by decide, rfl, by kernel_rfl, by kernel_rfl, by kernel_rfl, by decide⟩
theorem ok329 : FnOK Tryz.prog nm (cx.μ 329) F329 := ⟨Tryz.f155, _, Tryz.func155, by decide, rfl, by kernel_rfl, by kernel_rfl, by kernel_rfl, by decide⟩
theorem ok327 : FnOK Tryz.prog nm (cx.μ 327) F327 := ⟨Tryz.f166, _, Tryz.func166, by decide, rfl, by kernel_rfl, by kernel_rfl, by kernel_rfl, by decide⟩
theorem ok326 : FnOK Tryz.prog nm (cx.μ 326) F326 := ⟨Tryz.f165, _, Tryz.func165, by decide, rfl, by kernel_rfl, by kernel_rfl, by kernel_rfl, by decide⟩
theorem ok328 : FnOK Tryz.prog nm (cx.μ 328) F328 := ⟨Tryz.f154, _, Tryz.func154, by decide, rfl, by kernel_rfl, by kernel_rfl, by kernel_rfl, by decide⟩
theorem ok331 : FnOK Tryz.prog nm (cx.μ 331) F331 := ⟨Tryz.f157, _, Tryz.func157, by decide, rfl, by kernel_rfl, by kernel_rfl, by kernel_rfl, by decide⟩
theorem ok330 : FnOK Tryz.prog nm (cx.μ 330) F330 := ⟨Tryz.f156, _, Tryz.func156, by decide, rfl, by kernel_rfl, by kernel_rfl, by kernel_rfl, by decide⟩
theorem ok341 : FnOK Tryz.prog nm (cx.μ 341) F341 := ⟨Tryz.f102, _, Tryz.func102, by decide, rfl, by kernel_rfl, by kernel_rfl, by kernel_rfl, by decide⟩
theorem ok374 : FnOK Tryz.prog nm (cx.μ 374) F374 := ⟨Tryz.f187, _, Tryz.func187, by decide, rfl, by kernel_rfl, by kernel_rfl, by kernel_rfl, by decide⟩
theorem ok362 : FnOK Tryz.prog nm (cx.μ 362) F362 := ⟨Tryz.f189, _, Tryz.func189, by decide, rfl, by kernel_rfl, by kernel_rfl, by kernel_rfl, by decide⟩
theorem ok344 : FnOK Tryz.prog nm (cx.μ 344) F344 := ⟨Tryz.f135, _, Tryz.func135, by decide, rfl, by kernel_rfl, by kernel_rfl, by kernel_rfl, by decide⟩
theorem ok363 : FnOK Tryz.prog nm (cx.μ 363) F363 := ⟨Tryz.f190, _, Tryz.func190, by decide, rfl, by kernel_rfl, by kernel_rfl, by kernel_rfl, by decide⟩
theorem ok376 : FnOK Tryz.prog nm (cx.μ 376) F376 := ⟨Tryz.f175, _, Tryz.func175, by decide, rfl, by kernel_rfl, by kernel_rfl, by kernel_rfl, by decide⟩
theorem ok375 : FnOK Tryz.prog nm (cx.μ 375) F375 := ⟨Tryz.f188, _, Tryz.func188, by decide, rfl, by kernel_rfl, by kernel_rfl, by kernel_rfl, by decide⟩
theorem ok869 : FnOK Tryz.prog nm (cx.μ 869) F869 := ⟨Tryz.f45, _, Tryz.func45, by decide, rfl, by kernel_rfl, by kernel_rfl, by kernel_rfl, by decide⟩
theorem ok727 : FnOK Tryz.prog nm (cx.μ 727) F727 := ⟨Tryz.f12, _, Tryz.func12, by decide, rfl, by kernel_rfl, by kernel_rfl, by kernel_rfl, by decide⟩
theorem ok594 : FnOK Tryz.prog nm (cx.μ 594) F594 := ⟨Tryz.f70, _, Tryz.func70, by decide, rfl, by kernel_rfl, by kernel_rfl, by kernel_rfl, by decide⟩
theorem ok522 : FnOK Tryz.prog nm (cx.μ 522) F522 := ⟨Tryz.f127, _, Tryz.func127, by decide, rfl, by kernel_rfl, by kernel_rfl, by kernel_rfl, by decide⟩
theorem ok495 : FnOK Tryz.prog nm (cx.μ 495) F495 := ⟨Tryz.f97, _, Tryz.func97, by decide, rfl, by kernel_rfl, by kernel_rfl, by kernel_rfl, by decide⟩
theorem ok544 : FnOK Tryz.prog nm (cx.μ 544) F544 := ⟨Tryz.f23, _, Tryz.func23, by decide, rfl, by kernel_rfl, by kernel_rfl, by kernel_rfl, by decide⟩
theorem ok674 : FnOK Tryz.prog nm (cx.μ 674) F674 := ⟨Tryz.f99, _, Tryz.func99, by decide, rfl, by kernel_rfl, by kernel_rfl, by kernel_rfl, by decide⟩
theorem ok673 : FnOK Tryz.prog nm (cx.μ 673) F673 := ⟨Tryz.f95, _, Tryz.func95, by decide, rfl, by kernel_rfl, by kernel_rfl, by kernel_rfl, by decide⟩
theorem ok675 : FnOK Tryz.prog nm (cx.μ 675) F675 := ⟨Tryz.f100, _, Tryz.func100, by decide, rfl, by kernel_rfl, by kernel_rfl, by kernel_rfl, by decide⟩
theorem ok866 : FnOK Tryz.prog nm (cx.μ 866) F866 := ⟨Tryz.f20, _, Tryz.func20, by decide, rfl, by kernel_rfl, by kernel_rfl, by kernel_rfl, by decide⟩
theorem ok788 : FnOK Tryz.prog nm (cx.μ 788) F788 := ⟨Tryz.f17, _, Tryz.func17, by decide, rfl, by kernel_rfl, by kernel_rfl, by kernel_rfl, by decide⟩
theorem ok787 : FnOK Tryz.prog nm (cx.μ 787) F787 := ⟨Tryz.f46, _, Tryz.func46, by decide, rfl, by kernel_rfl, by kernel_rfl, by kernel_rfl, by decide⟩
theorem ok806 : FnOK Tryz.prog nm (cx.μ 806) F806 := ⟨Tryz.f30, _, Tryz.func30, by decide, rfl, by kernel_rfl, by kernel_rfl, by kernel_rfl, by decide⟩
theorem ok868 : FnOK Tryz.prog nm (cx.μ 868) F868 := ⟨Tryz.f22, _, Tryz.func22, by decide, rfl, by kernel_rfl, by kernel_rfl, by kernel_rfl, by decide⟩
theorem ok867 : FnOK Tryz.prog nm (cx.μ 867) F867 := ⟨Tryz.f44, _, Tryz.func44, by decide, rfl, by kernel_rfl, by kernel_rfl, by kernel_rfl, by decide⟩
theorem ok1112 : FnOK Tryz.prog nm (cx.μ 1112) F1112 := ⟨Tryz.f8, _, Tryz.func8, by decide, rfl, by kernel_rfl, by kernel_rfl, by kernel_rfl, by decide⟩
theorem ok1052 : FnOK Tryz.prog nm (cx.μ 1052) F1052 := ⟨Tryz.f18, _, Tryz.func18, by decide, rfl, by kernel_rfl, by kernel_rfl, by kernel_rfl, by decide⟩
theorem ok1050 : FnOK Tryz.prog nm (cx.μ 1050) F1050 := ⟨Tryz.f49, _, Tryz.func49, by decide, rfl, by kernel_rfl, by kernel_rfl, by kernel_rfl, by decide⟩
theorem ok1045 : FnOK Tryz.prog nm (cx.μ 1045) F1045 := ⟨Tryz.f25, _, Tryz.func25, by decide, rfl, by kernel_rfl, by kernel_rfl, by kernel_rfl, by decide⟩
theorem ok1051 : FnOK Tryz.prog nm (cx.μ 1051) F1051 := ⟨Tryz.f48, _, Tryz.func48, by decide, rfl, by kernel_rfl, by kernel_rfl, by kernel_rfl, by decide⟩
theorem ok1106 : FnOK Tryz.prog nm (cx.μ 1106) F1106 := ⟨Tryz.f5, _, Tryz.func5, by decide, rfl, by kernel_rfl, by kernel_rfl, by kernel_rfl, by decide⟩
theorem ok1060 : FnOK Tryz.prog nm (cx.μ 1060) F1060 := ⟨Tryz.f73, _, Tryz.func73, by decide, rfl, by kernel_rfl, by kernel_rfl, by kernel_rfl, by decide⟩
theorem ok1111 : FnOK Tryz.prog nm (cx.μ 1111) F1111 := ⟨Tryz.f15, _, Tryz.func15, by decide, rfl, by kernel_rfl, by kernel_rfl, by kernel_rfl, by decide⟩
theorem ok1116 : FnOK Tryz.prog nm (cx.μ 1116) F1116 := ⟨Tryz.f7, _, Tryz.func7, by decide, rfl, by kernel_rfl, by kernel_rfl, by kernel_rfl, by decide⟩
theorem ok1114 : FnOK Tryz.prog nm (cx.μ 1114) F1114 := ⟨Tryz.f21, _, Tryz.func21, by decide, rfl, by kernel_rfl, by kernel_rfl, by kernel_rfl, by decide⟩
theorem ok1113 : FnOK Tryz.prog nm (cx.μ 1113) F1113 := ⟨Tryz.f9, _, Tryz.func9, by decide, rfl, by kernel_rfl, by kernel_rfl, by kernel_rfl, by decide⟩
theorem ok1115 : FnOK Tryz.prog nm (cx.μ 1115) F1115 := ⟨Tryz.f3, _, Tryz.func3, by decide, rfl, by kernel_rfl, by kernel_rfl, by kernel_rfl, by decide⟩
theorem ok1118 : FnOK Tryz.prog nm (cx.μ 1118) F1118 := ⟨Tryz.f24, _, Tryz.func24, by decide, rfl, by kernel_rfl, by kernel_rfl, by kernel_rfl, by decide⟩
theorem ok1117 : FnOK Tryz.prog nm (cx.μ 1117) F1117 := ⟨Tryz.f10, _, Tryz.func10, by decide, rfl, by kernel_rfl, by kernel_rfl, by kernel_rfl, by decide⟩
theorem fok : tabF.All fun n F => FnOK Tryz.prog nm (cx.μ n) F := ⟨ok183, ⟨ok46, ⟨ok31, ⟨ok23, ⟨ok19, ⟨ok16, ⟨ok12, trivial, trivial⟩, ⟨ok18, trivial, trivial⟩⟩, ⟨ok21, ⟨ok20, trivial, trivial⟩, ⟨ok22, trivial, trivial⟩⟩⟩, ⟨ok27, ⟨ok25, ⟨ok24, trivial, trivial⟩, ⟨ok26, trivial, trivial⟩⟩, ⟨ok29, ⟨ok28, trivial, trivial⟩, ⟨ok30, trivial, trivial⟩⟩⟩⟩, ⟨ok39, ⟨ok35, ⟨ok33, ⟨ok32, trivial, trivial⟩, ⟨ok34, trivial, trivial⟩⟩, ⟨ok37, ⟨ok36, trivial, trivial⟩, ⟨ok38, trivial, trivial⟩⟩⟩, ⟨ok43, ⟨ok41, ⟨ok40, trivial, trivial⟩, ⟨ok42, trivial, trivial⟩⟩, ⟨ok45, ⟨ok44, trivial, trivial⟩, trivial⟩⟩⟩⟩, ⟨ok63, ⟨ok55, ⟨ok51, ⟨ok48, ⟨ok47, trivial, trivial⟩, ⟨ok50, trivial, trivial⟩⟩, ⟨ok53, ⟨ok52, trivial, trivial⟩, ⟨ok54, trivial, trivial⟩⟩⟩, ⟨ok59, ⟨ok57, ⟨ok56, trivial, trivial⟩, ⟨ok58, trivial, trivial⟩⟩, ⟨ok62, ⟨ok61, trivial, trivial⟩, trivial⟩⟩⟩, ⟨ok110, ⟨ok68, ⟨ok65, ⟨ok64, trivial, trivial⟩, ⟨ok66, trivial, trivial⟩⟩, ⟨ok71, ⟨ok69, trivial, trivial⟩, ⟨ok72, trivial, trivial⟩⟩⟩, ⟨ok180, ⟨ok168, ⟨ok111, trivial, trivial⟩, ⟨ok179, trivial, trivial⟩⟩, ⟨ok182, ⟨ok181, trivial, trivial⟩, trivial⟩⟩⟩⟩⟩, ⟨ok382, ⟨ok318, ⟨ok246, ⟨ok242, ⟨ok185, ⟨ok184, trivial, trivial⟩, ⟨ok186, trivial, trivial⟩⟩, ⟨ok244, ⟨ok243, trivial, trivial⟩, ⟨ok245, trivial, trivial⟩⟩⟩, ⟨ok266, ⟨ok263, ⟨ok262, trivial, trivial⟩, ⟨ok265, trivial, trivial⟩⟩, ⟨ok268, ⟨ok267, trivial, trivial⟩, trivial⟩⟩⟩, ⟨ok342, ⟨ok329, ⟨ok327, ⟨ok326, trivial, trivial⟩, ⟨ok328, trivial, trivial⟩⟩, ⟨ok331, ⟨ok330, trivial, trivial⟩, ⟨ok341, trivial, trivial⟩⟩⟩, ⟨ok374, ⟨ok362, ⟨ok344, trivial, trivial⟩, ⟨ok363, trivial, trivial⟩⟩, ⟨ok376, ⟨ok375, trivial, trivial⟩, trivial⟩⟩⟩⟩, ⟨ok869, ⟨ok727, ⟨ok594, ⟨ok522, ⟨ok495, trivial, trivial⟩, ⟨ok544, trivial, trivial⟩⟩, ⟨ok674, ⟨ok673, trivial, trivial⟩, ⟨ok675, trivial, trivial⟩⟩⟩, ⟨ok866, ⟨ok788, ⟨ok787, trivial, trivial⟩, ⟨ok806, trivial, trivial⟩⟩, ⟨ok868, ⟨ok867, trivial, trivial⟩, trivial⟩⟩⟩, ⟨ok1112, ⟨ok1052, ⟨ok1050, ⟨ok1045, trivial, trivial⟩, ⟨ok1051, trivial, trivial⟩⟩, ⟨ok1106, ⟨ok1060, trivial, trivial⟩, ⟨ok1111, trivial, trivial⟩⟩⟩, ⟨ok1116, ⟨ok1114, ⟨ok1113, trivial, trivial⟩, ⟨ok1115, trivial, trivial⟩⟩, ⟨ok1118, ⟨ok1117, trivial, trivial⟩, trivial⟩⟩⟩⟩⟩⟩
theorem nok : NOK Tryz.prog nm cx TA29E.G := nok_of (by kernel_rfl) (by kernel_rfl)
theorem clone147 : XOK Tryz.prog nm cx TA29E.G 147 (.clone (K1 11) 88) := by
 refine ⟨⟨Tryz.f43, 24, _, _, (.a [(I 0), (I 0), (I 0), (I 0), (I 0), (I 0), (I 0), (I 0), (.i .u64 0), (I 0), (.i .u64 0)]), (K1 11), _, _, _, _, _, _, _, _, _, Tryz.func43, rfl, Tryz.underlying24, rfl, rfl, ?_, rfl, rfl, rfl, rfl, rfl, rfl, ?_, ?_⟩, Tryz.f43, Tryz.func43, rfl, by decide⟩
 ·kernel_rfl
 ·kernel_rfl
 ·kernel_rfl
theorem clone60 : XOK Tryz.prog nm cx TA29E.G 60 (.clone (K1 2) 16) := by
 refine ⟨⟨Tryz.f143, 80, _, _, (.a [(I 0), (I 0)]), (K1 2), _, _, _, _, _, _, _, _, _, Tryz.func143, rfl, Tryz.underlying80, rfl, rfl, ?_, rfl, rfl, rfl, rfl, rfl, rfl, ?_, ?_⟩, Tryz.f143, Tryz.func143, rfl, by decide⟩
 ·kernel_rfl
 ·kernel_rfl
 ·kernel_rfl
theorem clone15 : XOK Tryz.prog nm cx TA29E.G 15 (.clone (K1 3) 32) := by
 refine ⟨⟨Tryz.f164, 52, _, _, (.a [(I 0), (I 0), (.s [])]), (K1 3), _, _, _, _, _, _, _, _, _, Tryz.func164, rfl, Tryz.underlying52, rfl, rfl, ?_, rfl, rfl, rfl, rfl, rfl, rfl, ?_, ?_⟩, Tryz.f164, Tryz.func164, rfl, by decide⟩
 ·kernel_rfl
 ·kernel_rfl
 ·kernel_rfl
end Go.Proofs.YtakfofnggifenaaGreatDoor

