/- Part 11 of the proof: CbSeat52. -/
import Derived.Test.YtpjacfiddgajfaaGreatDoorB9
import Derived.Test.YtpjacfiddgajfaaGreatDoorB10
import Derived.Test.YtpjacfiddgajfaaGreatDoorProg
open Go Go.Sim Go.RowKit
namespace Go.Proofs.YtpjacfiddgajfaaGreatDoor
def namesL : List (Nat × Nat × Nat) := [(2, 0, 0), (3, 1008, 0), (4, 1119, 0), (5, 781, 0), (6, 1009, 0), (7, 1010, 0), (8, 77, 0), (9, 97, 0), (10, 528, 0), (11, 1120, 0), (12, 561, 0), (13, 109, 0), (14, 1011, 0), (15, 517, 0), (16, 1012, 0), (17, 564, 0), (18, 531, 0), (19, 85, 0), (20, 139, 0), (21, 140, 0), (22, 9, 0), (23, 560, 2), (24, 207, 0), (25, 146, 0), (26, 1121, 0), (27, 178, 0), (28, 480, 0), (29, 87, 0), (30, 88, 0), (31, 1013, 0), (32, 567, 0), (33, 234, 0), (34, 568, 0), (35, 569, 0), (36, 100, 0), (37, 223, 0), (38, 224, 0), (39, 14, 0), (40, 291, 0), (41, 225, 1), (42, 226, 1), (43, 227, 1), (44, 228, 1), (45, 229, 1), (46, 230, 2), (47, 231, 0), (48, 160, 1), (49, 232, 2), (50, 233, 0), (51, 261, 0), (52, 488, 0), (53, 489, 0), (54, 490, 0), (55, 106, 0), (56, 1014, 0), (57, 1015, 0), (58, 172, 0), (59, 610, 0), (60, 336, 0), (61, 287, 0), (62, 310, 2), (63, 10, 0), (64, 611, 0), (65, 612, 0), (66, 613, 0), (67, 614, 0), (68, 615, 0), (69, 616, 0), (70, 617, 0), (71, 618, 0), (72, 619, 0), (73, 620, 0), (74, 621, 0), (75, 622, 0), (76, 623, 0), (77, 624, 0), (78, 147, 1), (79, 148, 1), (80, 149, 1), (81, 150, 1), (82, 151, 1), (83, 152, 1), (84, 153, 1), (85, 154, 2), (86, 94, 0), (87, 155, 2), (88, 156, 0), (89, 157, 1), (90, 158, 2), (91, 159, 0), (92, 161, 1), (93, 162, 1), (94, 300, 0), (95, 301, 0), (96, 302, 0), (97, 303, 0), (98, 304, 0), (99, 305, 2), (100, 306, 0), (101, 307, 0), (102, 308, 2), (103, 309, 0), (104, 337, 0), (105, 338, 0), (106, 339, 0), (107, 340, 0), (108, 504, 0), (109, 505, 0), (110, 506, 0), (111, 507, 0), (112, 508, 0), (113, 509, 0), (114, 510, 0), (115, 511, 0), (116, 512, 0), (117, 513, 0), (118, 514, 0), (119, 515, 0), (120, 516, 0), (121, 518, 0), (122, 177, 0), (123, 679, 0), (124, 1016, 0), (125, 548, 0), (126, 1017, 0), (127, 604, 0), (128, 605, 0), (129, 254, 2), (130, 255, 2), (131, 686, 0), (132, 377, 0), (133, 358, 2), (134, 359, 2), (135, 173, 0), (136, 15, 1), (137, 687, 0), (138, 688, 0), (139, 689, 0), (140, 690, 0), (141, 691, 0), (142, 692, 0), (143, 693, 0), (144, 694, 0), (145, 695, 0), (146, 633, 0), (147, 696, 0), (148, 697, 0), (149, 698, 0), (150, 699, 0), (151, 700, 0), (152, 701, 0), (153, 702, 0), (154, 703, 0), (155, 704, 0), (156, 705, 0), (157, 83, 0), (158, 200, 0), (159, 137, 1), (160, 138, 1), (161, 60, 1), (162, 365, 2), (163, 378, 0), (164, 74, 0), (165, 379, 0), (166, 380, 0), (167, 381, 0), (168, 537, 0), (169, 538, 0), (170, 539, 0), (171, 540, 0), (172, 541, 0), (173, 542, 0), (174, 543, 0), (175, 544, 0), (176, 545, 0), (177, 546, 0), (178, 547, 0), (179, 549, 0), (180, 550, 0), (181, 551, 0), (182, 552, 0), (183, 553, 0), (184, 554, 0), (185, 555, 0), (186, 259, 0), (187, 260, 0), (188, 607, 0), (189, 685, 0), (190, 770, 0), (191, 771, 0), (192, 606, 0), (193, 1018, 0), (194, 1019, 0), (195, 680, 0), (196, 681, 0), (197, 22, 0), (198, 256, 0), (199, 257, 0), (200, 777, 2), (201, 778, 0), (202, 779, 2), (203, 780, 0), (204, 12, 0), (205, 274, 0), (206, 782, 2), (207, 783, 0), (208, 784, 2), (209, 785, 0), (210, 281, 2), (211, 786, 2), (212, 787, 0), (213, 39, 0), (214, 717, 0), (215, 718, 0), (216, 24, 0), (217, 657, 0), (218, 634, 0), (219, 649, 0), (220, 89, 0), (221, 788, 0), (222, 789, 0), (223, 534, 1), (224, 790, 0), (225, 791, 0), (226, 792, 2), (227, 793, 0), (228, 794, 0), (229, 795, 0), (230, 796, 0), (231, 92, 2), (232, 101, 2), (233, 284, 0), (234, 394, 0), (235, 395, 0), (236, 595, 0), (237, 596, 0), (238, 597, 0), (239, 598, 0), (240, 599, 0), (241, 600, 0), (242, 601, 0), (243, 602, 0), (244, 603, 0), (245, 608, 0), (246, 861, 0), (247, 682, 0), (248, 683, 0), (249, 684, 0), (250, 1020, 0), (251, 1021, 0), (252, 1022, 0), (253, 1023, 0), (254, 1024, 0), (255, 772, 0), (256, 773, 0), (257, 774, 0), (258, 775, 0), (259, 776, 0), (260, 335, 0), (261, 799, 2), (262, 863, 2), (263, 864, 0), (264, 16, 0), (265, 838, 2), (266, 865, 0), (267, 65, 0), (268, 72, 0), (269, 800, 0), (270, 801, 0), (271, 802, 0), (272, 390, 2), (273, 391, 2), (274, 393, 2), (275, 30, 0), (276, 272, 0), (277, 745, 0), (278, 746, 2), (279, 747, 0), (280, 719, 0), (281, 715, 0), (282, 716, 0), (283, 720, 0), (284, 188, 0), (285, 346, 0), (286, 733, 2), (287, 734, 2), (288, 273, 0), (289, 107, 0), (290, 108, 0), (291, 110, 0), (292, 111, 0), (293, 21, 0), (294, 866, 2), (295, 867, 2), (296, 868, 0), (297, 869, 0), (298, 352, 0), (299, 870, 0), (300, 570, 1), (301, 533, 0), (302, 871, 2), (303, 191, 0), (304, 872, 0), (305, 873, 2), (306, 874, 2), (307, 875, 2), (308, 876, 0), (309, 877, 0), (310, 33, 0), (311, 676, 0), (312, 677, 0), (313, 678, 0), (314, 1025, 0), (315, 1026, 0), (316, 1027, 0), (317, 1028, 0), (318, 1029, 0), (319, 1030, 0), (320, 1031, 0), (321, 1032, 0), (322, 1033, 0), (323, 862, 0), (324, 926, 0), (325, 18, 2), (326, 19, 2), (327, 927, 0), (328, 71, 0), (329, 66, 0), (330, 878, 0), (331, 879, 0), (332, 880, 0), (333, 881, 0), (334, 882, 0), (335, 883, 0), (336, 884, 0), (337, 885, 0), (338, 886, 0), (339, 887, 0), (340, 402, 2), (341, 403, 2), (342, 829, 2), (343, 830, 2), (344, 735, 2), (345, 50, 2), (346, 803, 0), (347, 804, 0), (348, 270, 0), (349, 271, 0), (350, 822, 2), (351, 179, 1), (352, 180, 2), (353, 181, 0), (354, 182, 0), (355, 183, 0), (356, 184, 0), (357, 185, 0), (358, 186, 0), (359, 26, 0), (360, 20, 0), (361, 727, 0), (362, 594, 0), (363, 28, 0), (364, 532, 0), (365, 928, 0), (366, 929, 0), (367, 275, 0), (368, 893, 0), (369, 930, 0), (370, 64, 0), (371, 37, 0), (372, 931, 0), (373, 54, 0), (374, 31, 0), (375, 36, 0), (376, 34, 0), (377, 42, 0), (378, 769, 0), (379, 1034, 0), (380, 1035, 0), (381, 1036, 0), (382, 1037, 0), (383, 1038, 0), (384, 1039, 0), (385, 1040, 0), (386, 1041, 0), (387, 1042, 0), (388, 1043, 0), (389, 1044, 0), (390, 1045, 0), (391, 374, 0), (392, 932, 0), (393, 933, 0), (394, 708, 2), (395, 934, 2), (396, 916, 0), (397, 371, 0), (400, 385, 2), (401, 59, 2), (402, 347, 0), (403, 348, 0), (404, 349, 2), (405, 350, 0), (406, 262, 2), (407, 263, 0), (408, 264, 2), (409, 265, 2), (410, 266, 2), (411, 267, 0), (412, 268, 0), (413, 269, 2), (414, 23, 0), (415, 25, 0), (416, 27, 0), (417, 806, 2), (418, 673, 2), (419, 495, 0), (420, 168, 0), (421, 674, 0), (422, 675, 0), (423, 35, 0), (424, 750, 0), (425, 751, 0), (426, 894, 0), (427, 55, 0), (428, 57, 0), (429, 48, 0), (430, 58, 0), (431, 47, 0), (432, 49, 0), (433, 67, 0), (435, 43, 0), (436, 44, 0), (437, 45, 0), (438, 46, 0), (440, 859, 0), (441, 860, 0), (442, 1046, 0), (443, 1047, 0), (444, 923, 0), (445, 924, 0), (446, 1048, 0), (447, 1049, 0), (448, 1050, 0), (449, 1051, 0), (450, 956, 1), (451, 945, 0), (452, 387, 0), (453, 946, 0), (454, 947, 0), (455, 341, 0), (456, 342, 0), (458, 343, 0), (459, 344, 0), (461, 345, 0), (462, 29, 2), (463, 32, 0), (464, 244, 2), (465, 522, 2), (466, 245, 0), (467, 246, 0), (468, 767, 0), (469, 768, 0), (470, 242, 0), (471, 243, 0), (472, 936, 0), (473, 56, 0), (474, 919, 0), (475, 920, 0), (476, 921, 0), (477, 922, 0), (478, 925, 0), (479, 954, 0), (480, 1052, 0), (481, 1053, 0), (482, 1054, 0), (483, 1055, 0), (484, 1056, 0), (485, 1057, 0), (486, 1058, 0), (487, 1059, 0), (488, 1060, 0), (489, 399, 0), (490, 416, 0), (491, 400, 0), (492, 966, 0), (493, 967, 0), (494, 382, 0), (495, 383, 0), (496, 384, 0), (497, 38, 2), (498, 40, 0), (499, 41, 0), (500, 318, 0), (501, 328, 2), (502, 329, 2), (503, 330, 0), (504, 331, 0), (505, 855, 2), (506, 856, 2), (507, 857, 0), (508, 858, 0), (509, 326, 0), (510, 327, 0), (511, 957, 2), (512, 68, 0), (513, 950, 0), (514, 951, 0), (515, 952, 0), (516, 953, 0), (517, 955, 0), (518, 968, 0), (519, 1061, 0), (520, 1062, 0), (521, 1063, 0), (522, 1064, 0), (523, 1065, 0), (524, 1066, 0), (525, 405, 0), (526, 406, 0), (527, 407, 2), (528, 408, 0), (529, 409, 0), (530, 410, 0), (531, 411, 0), (532, 983, 0), (533, 984, 0), (534, 396, 0), (535, 397, 0), (536, 51, 0), (537, 52, 0), (538, 53, 0), (539, 376, 2), (540, 724, 2), (541, 917, 2), (542, 918, 0), (543, 375, 0), (544, 362, 0), (545, 363, 0), (546, 73, 0), (547, 969, 0), (548, 970, 0), (549, 1067, 0), (550, 1068, 0), (551, 1069, 0), (552, 1070, 0), (553, 1071, 0), (554, 1072, 0), (555, 1073, 0), (556, 1074, 0), (557, 412, 2), (558, 413, 2), (559, 414, 0), (560, 415, 0), (561, 417, 0), (562, 418, 0), (563, 996, 0), (564, 997, 0), (565, 998, 0), (566, 999, 0), (567, 61, 0), (568, 62, 0), (569, 63, 0), (570, 948, 0), (571, 949, 0), (572, 386, 2), (573, 985, 0), (574, 1075, 0), (575, 1076, 0), (576, 1077, 0), (577, 419, 2), (578, 420, 0), (579, 421, 2), (580, 69, 2), (581, 70, 0), (582, 398, 0), (583, 1078, 0), (584, 422, 0), (585, 423, 0), (586, 424, 0), (587, 404, 0), (588, 425, 2), (589, 426, 0), (590, 427, 0), (592, 428, 0), (593, 429, 0), (594, 430, 0), (595, 431, 0), (596, 432, 0), (597, 433, 0), (598, 434, 0), (599, 435, 0), (600, 436, 0), (601, 437, 0), (602, 438, 0), (603, 439, 0), (604, 440, 0), (605, 441, 0), (606, 442, 0), (607, 443, 0), (609, 444, 0), (610, 445, 0), (611, 446, 0), (612, 447, 0), (613, 448, 2), (614, 449, 0), (615, 450, 0), (616, 451, 0), (617, 452, 2), (618, 453, 0), (620, 454, 0), (621, 455, 0), (622, 456, 2), (623, 457, 2), (624, 458, 2), (625, 459, 2), (626, 460, 0), (627, 461, 0), (628, 462, 0), (629, 463, 2), (630, 464, 0), (631, 465, 0), (632, 466, 0), (633, 467, 0), (634, 468, 0), (635, 469, 0), (636, 470, 0), (671, 75, 0)]
def glL : List (Nat × Nat) := [(0, 0), (5, 1), (8, 4)]
noncomputable def nm : Names := { f := nameOf namesL, g := gnum glL }
def cx : Cx := ⟨muOf namesL⟩
set_option maxRecDepth 100000
theorem ok377 : FnOK Tryz.prog nm (cx.μ 377) F377 := ⟨Tryz.f132, _, Tryz.func132, by decide, rfl, by kernel_rfl, by kernel_rfl, by kernel_rfl, by decide⟩
theorem ok168 : FnOK Tryz.prog nm (cx.μ 168) F168 := ⟨Tryz.f420, _, Tryz.func420, by decide, rfl, by kernel_rfl, by kernel_rfl, by kernel_rfl, by decide⟩
theorem ok47 : FnOK Tryz.prog nm (cx.μ 47) F47 := ⟨Tryz.f431, _, Tryz.func431, by decide, rfl, by kernel_rfl, by kernel_rfl, by kernel_rfl, by decide⟩
theorem ok30 : FnOK Tryz.prog nm (cx.μ 30) F30 := ⟨Tryz.f275, _, Tryz.func275, by decide, rfl, by kernel_rfl, by kernel_rfl, by kernel_rfl, by decide⟩
theorem ok22 : FnOK Tryz.prog nm (cx.μ 22) F22 := ⟨Tryz.f197, _, Tryz.func197, by decide, rfl, by kernel_rfl, by kernel_rfl, by kernel_rfl, by decide⟩
theorem ok18 : FnOK Tryz.prog nm (cx.μ 18) F18 := ⟨Tryz.f325, _, Tryz.func325, by decide, rfl, by kernel_rfl, by kernel_rfl, by kernel_rfl, by decide⟩
theorem ok12 : FnOK Tryz.prog nm (cx.μ 12) F12 := ⟨Tryz.f204, _, Tryz.func204, by decide, rfl, by kernel_rfl, by kernel_rfl, by kernel_rfl, by decide⟩
theorem ok10 : FnOK Tryz.prog nm (cx.μ 10) F10 := ⟨Tryz.f63, _, Tryz.func63, by decide, rfl, by kernel_rfl, by kernel_rfl, by kernel_rfl, by decide⟩
theorem ok16 : FnOK Tryz.prog nm (cx.μ 16) F16 := ⟨Tryz.f264, _, Tryz.func264, by decide, rfl, by kernel_rfl, by kernel_rfl, by kernel_rfl, by decide⟩
theorem ok20 : FnOK Tryz.prog nm (cx.μ 20) F20 := ⟨Tryz.f360, _, Tryz.func360, by decide, rfl, by kernel_rfl, by kernel_rfl, by kernel_rfl, by decide⟩
theorem ok19 : FnOK Tryz.prog nm (cx.μ 19) F19 := ⟨Tryz.f326, _, Tryz.func326, by decide, rfl, by kernel_rfl, by kernel_rfl, by kernel_rfl, by decide⟩
theorem ok21 : FnOK Tryz.prog nm (cx.μ 21) F21 := ⟨Tryz.f293, _, Tryz.func293, by decide, rfl, by kernel_rfl, by kernel_rfl, by kernel_rfl, by decide⟩
theorem ok26 : FnOK Tryz.prog nm (cx.μ 26) F26 := ⟨Tryz.f359, _, Tryz.func359, by decide, rfl, by kernel_rfl, by kernel_rfl, by kernel_rfl, by decide⟩
theorem ok24 : FnOK Tryz.prog nm (cx.μ 24) F24 := ⟨Tryz.f216, _, Tryz.func216, by decide, rfl, by kernel_rfl, by kernel_rfl, by kernel_rfl, by decide⟩
theorem ok23 : FnOK Tryz.prog nm (cx.μ 23) F23 := ⟨Tryz.f414, _, Tryz.func414, by decide, rfl, by kernel_rfl, by kernel_rfl, by kernel_rfl, by decide⟩
theorem ok25 : FnOK Tryz.prog nm (cx.μ 25) F25 := ⟨Tryz.f415, _, Tryz.func415, by decide, rfl, by kernel_rfl, by kernel_rfl, by kernel_rfl, by decide⟩
theorem ok28 : FnOK Tryz.prog nm (cx.μ 28) F28 := ⟨Tryz.f363, _, Tryz.func363, by decide, rfl, by kernel_rfl, by kernel_rfl, by kernel_rfl, by decide⟩
theorem ok27 : FnOK Tryz.prog nm (cx.μ 27) F27 := ⟨Tryz.f416, _, Tryz.func416, by decide, rfl, by kernel_rfl, by kernel_rfl, by kernel_rfl, by decide⟩
theorem ok29 : FnOK Tryz.prog nm (cx.μ 29) F29 := ⟨Tryz.f462, _, Tryz.func462, by decide, rfl, by kernel_rfl, by kernel_rfl, by kernel_rfl, by decide⟩
theorem ok38 : FnOK Tryz.prog nm (cx.μ 38) F38 := ⟨Tryz.f497, _, Tryz.func497, by decide, rfl, by kernel_rfl, by kernel_rfl, by kernel_rfl, by decide⟩
theorem ok34 : FnOK Tryz.prog nm (cx.μ 34) F34 := ⟨Tryz.f376, _, Tryz.func376, by decide, rfl, by kernel_rfl, by kernel_rfl, by kernel_rfl, by decide⟩
theorem ok32 : FnOK Tryz.prog nm (cx.μ 32) F32 := ⟨Tryz.f463, _, Tryz.func463, by decide, rfl, by kernel_rfl, by kernel_rfl, by kernel_rfl, by decide⟩
theorem ok31 : FnOK Tryz.prog nm (cx.μ 31) F31 := ⟨Tryz.f374, _, Tryz.func374, by decide, rfl, by kernel_rfl, by kernel_rfl, by kernel_rfl, by decide⟩
theorem ok33 : FnOK Tryz.prog nm (cx.μ 33) F33 := ⟨Tryz.f310, _, Tryz.func310, by decide, rfl, by kernel_rfl, by kernel_rfl, by kernel_rfl, by decide⟩
theorem ok36 : FnOK Tryz.prog nm (cx.μ 36) F36 := ⟨Tryz.f375, _, Tryz.func375, by decide, rfl, by kernel_rfl, by kernel_rfl, by kernel_rfl, by decide⟩
theorem ok35 : FnOK Tryz.prog nm (cx.μ 35) F35 := ⟨Tryz.f423, _, Tryz.func423, by decide, rfl, by kernel_rfl, by kernel_rfl, by kernel_rfl, by decide⟩
theorem ok37 : FnOK Tryz.prog nm (cx.μ 37) F37 := ⟨Tryz.f371, _, Tryz.func371, by decide, rfl, by kernel_rfl, by kernel_rfl, by kernel_rfl, by decide⟩
theorem ok42 : FnOK Tryz.prog nm (cx.μ 42) F42 := ⟨Tryz.f377, _, Tryz.func377, by decide, rfl, by kernel_rfl, by kernel_rfl, by kernel_rfl, by decide⟩
theorem ok40 : FnOK Tryz.prog nm (cx.μ 40) F40 := ⟨Tryz.f498, _, Tryz.func498, by decide, rfl, by kernel_rfl, by kernel_rfl, by kernel_rfl, by decide⟩
theorem ok39 : FnOK Tryz.prog nm (cx.μ 39) F39 := ⟨Tryz.f213, _, Tryz.func213, by decide, rfl, by kernel_rfl, by kernel_rfl, by kernel_rfl, by decide⟩
theorem ok41 : FnOK Tryz.prog nm (cx.μ 41) F41 := ⟨Tryz.f499, _, Tryz.func499, by decide, rfl, by kernel_rfl, by kernel_rfl, by kernel_rfl, by decide⟩
theorem ok44 : FnOK Tryz.prog nm (cx.μ 44) F44 := ⟨Tryz.f436, _, Tryz.func436, by decide, rfl, by kernel_rfl, by kernel_rfl, by kernel_rfl, by decide⟩
theorem ok43 : FnOK Tryz.prog nm (cx.μ 43) F43 := ⟨Tryz.f435, _, Tryz.func435, by decide, rfl, by kernel_rfl, by kernel_rfl, by kernel_rfl, by decide⟩
theorem ok46 : FnOK Tryz.prog nm (cx.μ 46) F46 := ⟨Tryz.f438, _, Tryz.func438, by decide, rfl, by kernel_rfl, by kernel_rfl, by kernel_rfl, by decide⟩
theorem ok65 : FnOK Tryz.prog nm (cx.μ 65) F65 := ⟨Tryz.f267, _, Tryz.func267, by decide, rfl, by kernel_rfl, by kernel_rfl, by kernel_rfl, by decide⟩
theorem ok56 : FnOK Tryz.prog nm (cx.μ 56) F56 := ⟨Tryz.f473, _, Tryz.func473, by decide, rfl, by kernel_rfl, by kernel_rfl, by kernel_rfl, by decide⟩
theorem ok52 : FnOK Tryz.prog nm (cx.μ 52) F52 := ⟨Tryz.f537, _, Tryz.func537, by decide, rfl, by kernel_rfl, by kernel_rfl, by kernel_rfl, by decide⟩
theorem ok50 : FnOK Tryz.prog nm (cx.μ 50) F50 := ⟨Tryz.f345, _, Tryz.func345, by decide, rfl, by kernel_rfl, by kernel_rfl, by kernel_rfl, by decide⟩
theorem ok48 : FnOK Tryz.prog nm (cx.μ 48) F48 := ⟨Tryz.f429, _, Tryz.func429, by decide, rfl, by kernel_rfl, by kernel_rfl, by kernel_rfl, by decide⟩
theorem ok51 : FnOK Tryz.prog nm (cx.μ 51) F51 := ⟨Tryz.f536, _, Tryz.func536, by decide, rfl, by kernel_rfl, by kernel_rfl, by kernel_rfl, by decide⟩
theorem ok54 : FnOK Tryz.prog nm (cx.μ 54) F54 := ⟨Tryz.f373, _, Tryz.func373, by decide, rfl, by kernel_rfl, by kernel_rfl, by kernel_rfl, by decide⟩
theorem ok53 : FnOK Tryz.prog nm (cx.μ 53) F53 := ⟨Tryz.f538, _, Tryz.func538, by decide, rfl, by kernel_rfl, by kernel_rfl, by kernel_rfl, by decide⟩
theorem ok55 : FnOK Tryz.prog nm (cx.μ 55) F55 := ⟨Tryz.f427, _, Tryz.func427, by decide, rfl, by kernel_rfl, by kernel_rfl, by kernel_rfl, by decide⟩
theorem ok61 : FnOK Tryz.prog nm (cx.μ 61) F61 := ⟨Tryz.f567, _, Tryz.func567, by decide, rfl, by kernel_rfl, by kernel_rfl, by kernel_rfl, by decide⟩
theorem ok58 : FnOK Tryz.prog nm (cx.μ 58) F58 := ⟨Tryz.f430, _, Tryz.func430, by decide, rfl, by kernel_rfl, by kernel_rfl, by kernel_rfl, by decide⟩
theorem ok57 : FnOK Tryz.prog nm (cx.μ 57) F57 := ⟨Tryz.f428, _, Tryz.func428, by decide, rfl, by kernel_rfl, by kernel_rfl, by kernel_rfl, by decide⟩
theorem ok59 : FnOK Tryz.prog nm (cx.μ 59) F59 := ⟨Tryz.f401, _, Tryz.func401, by decide, rfl, by kernel_rfl, by kernel_rfl, by kernel_rfl, by decide⟩
theorem ok63 : FnOK Tryz.prog nm (cx.μ 63) F63 := ⟨Tryz.f569, _, Tryz.func569, by decide, rfl, by kernel_rfl, by kernel_rfl, by kernel_rfl, by decide⟩
theorem ok62 : FnOK Tryz.prog nm (cx.μ 62) F62 := ⟨Tryz.f568, _, Tryz.func568, by decide, rfl, by kernel_rfl, by kernel_rfl, by kernel_rfl, by decide⟩
theorem ok64 : FnOK Tryz.prog nm (cx.μ 64) F64 := ⟨Tryz.f370, _, Tryz.func370, by decide, rfl, by kernel_rfl, by kernel_rfl, by kernel_rfl, by decide⟩
theorem ok100 : FnOK Tryz.prog nm (cx.μ 100) F100 := ⟨Tryz.f36, _, Tryz.func36, by decide, rfl, by kernel_rfl, by kernel_rfl, by kernel_rfl, by decide⟩
theorem ok71 : FnOK Tryz.prog nm (cx.μ 71) F71 := ⟨Tryz.f328, _, Tryz.func328, by decide, rfl, by kernel_rfl, by kernel_rfl, by kernel_rfl, by decide⟩
theorem ok68 : FnOK Tryz.prog nm (cx.μ 68) F68 := ⟨Tryz.f512, _, Tryz.func512, by decide, rfl, by kernel_rfl, by kernel_rfl, by kernel_rfl, by decide⟩
theorem ok66 : FnOK Tryz.prog nm (cx.μ 66) F66 := ⟨Tryz.f329, _, Tryz.func329, by decide, rfl, by kernel_rfl, by kernel_rfl, by kernel_rfl, by decide⟩
theorem ok69 : FnOK Tryz.prog nm (cx.μ 69) F69 := ⟨Tryz.f580, _, Tryz.func580, by decide, rfl, by kernel_rfl, by kernel_rfl, by kernel_rfl, by decide⟩
theorem ok87 : FnOK Tryz.prog nm (cx.μ 87) F87 := ⟨Tryz.f29, _, Tryz.func29, by decide, rfl, by kernel_rfl, by kernel_rfl, by kernel_rfl, by decide⟩
theorem ok72 : FnOK Tryz.prog nm (cx.μ 72) F72 := ⟨Tryz.f268, _, Tryz.func268, by decide, rfl, by kernel_rfl, by kernel_rfl, by kernel_rfl, by decide⟩
theorem ok88 : FnOK Tryz.prog nm (cx.μ 88) F88 := ⟨Tryz.f30, _, Tryz.func30, by decide, rfl, by kernel_rfl, by kernel_rfl, by kernel_rfl, by decide⟩
theorem ok146 : FnOK Tryz.prog nm (cx.μ 146) F146 := ⟨Tryz.f25, _, Tryz.func25, by decide, rfl, by kernel_rfl, by kernel_rfl, by kernel_rfl, by decide⟩
theorem ok110 : FnOK Tryz.prog nm (cx.μ 110) F110 := ⟨Tryz.f291, _, Tryz.func291, by decide, rfl, by kernel_rfl, by kernel_rfl, by kernel_rfl, by decide⟩
theorem ok106 : FnOK Tryz.prog nm (cx.μ 106) F106 := ⟨Tryz.f55, _, Tryz.func55, by decide, rfl, by kernel_rfl, by kernel_rfl, by kernel_rfl, by decide⟩
theorem ok111 : FnOK Tryz.prog nm (cx.μ 111) F111 := ⟨Tryz.f292, _, Tryz.func292, by decide, rfl, by kernel_rfl, by kernel_rfl, by kernel_rfl, by decide⟩
theorem ok155 : FnOK Tryz.prog nm (cx.μ 155) F155 := ⟨Tryz.f87, _, Tryz.func87, by decide, rfl, by kernel_rfl, by kernel_rfl, by kernel_rfl, by decide⟩
theorem ok154 : FnOK Tryz.prog nm (cx.μ 154) F154 := ⟨Tryz.f85, _, Tryz.func85, by decide, rfl, by kernel_rfl, by kernel_rfl, by kernel_rfl, by decide⟩
theorem ok158 : FnOK Tryz.prog nm (cx.μ 158) F158 := ⟨Tryz.f90, _, Tryz.func90, by decide, rfl, by kernel_rfl, by kernel_rfl, by kernel_rfl, by decide⟩
theorem ok265 : FnOK Tryz.prog nm (cx.μ 265) F265 := ⟨Tryz.f409, _, Tryz.func409, by decide, rfl, by kernel_rfl, by kernel_rfl, by kernel_rfl, by decide⟩
theorem ok232 : FnOK Tryz.prog nm (cx.μ 232) F232 := ⟨Tryz.f49, _, Tryz.func49, by decide, rfl, by kernel_rfl, by kernel_rfl, by kernel_rfl, by decide⟩
theorem ok183 : FnOK Tryz.prog nm (cx.μ 183) F183 := ⟨Tryz.f355, _, Tryz.func355, by decide, rfl, by kernel_rfl, by kernel_rfl, by kernel_rfl, by decide⟩
theorem ok179 : FnOK Tryz.prog nm (cx.μ 179) F179 := ⟨Tryz.f351, _, Tryz.func351, by decide, rfl, by kernel_rfl, by kernel_rfl, by kernel_rfl, by decide⟩
theorem ok173 : FnOK Tryz.prog nm (cx.μ 173) F173 := ⟨Tryz.f135, _, Tryz.func135, by decide, rfl, by kernel_rfl, by kernel_rfl, by kernel_rfl, by decide⟩
theorem ok172 : FnOK Tryz.prog nm (cx.μ 172) F172 := ⟨Tryz.f58, _, Tryz.func58, by decide, rfl, by kernel_rfl, by kernel_rfl, by kernel_rfl, by decide⟩
theorem ok177 : FnOK Tryz.prog nm (cx.μ 177) F177 := ⟨Tryz.f122, _, Tryz.func122, by decide, rfl, by kernel_rfl, by kernel_rfl, by kernel_rfl, by decide⟩
theorem ok181 : FnOK Tryz.prog nm (cx.μ 181) F181 := ⟨Tryz.f353, _, Tryz.func353, by decide, rfl, by kernel_rfl, by kernel_rfl, by kernel_rfl, by decide⟩
theorem ok180 : FnOK Tryz.prog nm (cx.μ 180) F180 := ⟨Tryz.f352, _, Tryz.func352, by decide, rfl, by kernel_rfl, by kernel_rfl, by kernel_rfl, by decide⟩
theorem ok182 : FnOK Tryz.prog nm (cx.μ 182) F182 := ⟨Tryz.f354, _, Tryz.func354, by decide, rfl, by kernel_rfl, by kernel_rfl, by kernel_rfl, by decide⟩
theorem ok191 : FnOK Tryz.prog nm (cx.μ 191) F191 := ⟨Tryz.f303, _, Tryz.func303, by decide, rfl, by kernel_rfl, by kernel_rfl, by kernel_rfl, by decide⟩
theorem ok185 : FnOK Tryz.prog nm (cx.μ 185) F185 := ⟨Tryz.f357, _, Tryz.func357, by decide, rfl, by kernel_rfl, by kernel_rfl, by kernel_rfl, by decide⟩
theorem ok184 : FnOK Tryz.prog nm (cx.μ 184) F184 := ⟨Tryz.f356, _, Tryz.func356, by decide, rfl, by kernel_rfl, by kernel_rfl, by kernel_rfl, by decide⟩
theorem ok186 : FnOK Tryz.prog nm (cx.μ 186) F186 := ⟨Tryz.f358, _, Tryz.func358, by decide, rfl, by kernel_rfl, by kernel_rfl, by kernel_rfl, by decide⟩
theorem ok230 : FnOK Tryz.prog nm (cx.μ 230) F230 := ⟨Tryz.f46, _, Tryz.func46, by decide, rfl, by kernel_rfl, by kernel_rfl, by kernel_rfl, by decide⟩
theorem ok207 : FnOK Tryz.prog nm (cx.μ 207) F207 := ⟨Tryz.f24, _, Tryz.func24, by decide, rfl, by kernel_rfl, by kernel_rfl, by kernel_rfl, by decide⟩
theorem ok231 : FnOK Tryz.prog nm (cx.μ 231) F231 := ⟨Tryz.f47, _, Tryz.func47, by decide, rfl, by kernel_rfl, by kernel_rfl, by kernel_rfl, by decide⟩
theorem ok254 : FnOK Tryz.prog nm (cx.μ 254) F254 := ⟨Tryz.f129, _, Tryz.func129, by decide, rfl, by kernel_rfl, by kernel_rfl, by kernel_rfl, by decide⟩
theorem ok243 : FnOK Tryz.prog nm (cx.μ 243) F243 := ⟨Tryz.f471, _, Tryz.func471, by decide, rfl, by kernel_rfl, by kernel_rfl, by kernel_rfl, by decide⟩
theorem ok234 : FnOK Tryz.prog nm (cx.μ 234) F234 := ⟨Tryz.f33, _, Tryz.func33, by decide, rfl, by kernel_rfl, by kernel_rfl, by kernel_rfl, by decide⟩
theorem ok233 : FnOK Tryz.prog nm (cx.μ 233) F233 := ⟨Tryz.f50, _, Tryz.func50, by decide, rfl, by kernel_rfl, by kernel_rfl, by kernel_rfl, by decide⟩
theorem ok242 : FnOK Tryz.prog nm (cx.μ 242) F242 := ⟨Tryz.f470, _, Tryz.func470, by decide, rfl, by kernel_rfl, by kernel_rfl, by kernel_rfl, by decide⟩
theorem ok245 : FnOK Tryz.prog nm (cx.μ 245) F245 := ⟨Tryz.f466, _, Tryz.func466, by decide, rfl, by kernel_rfl, by kernel_rfl, by kernel_rfl, by decide⟩
theorem ok244 : FnOK Tryz.prog nm (cx.μ 244) F244 := ⟨Tryz.f464, _, Tryz.func464, by decide, rfl, by kernel_rfl, by kernel_rfl, by kernel_rfl, by decide⟩
theorem ok246 : FnOK Tryz.prog nm (cx.μ 246) F246 := ⟨Tryz.f467, _, Tryz.func467, by decide, rfl, by kernel_rfl, by kernel_rfl, by kernel_rfl, by decide⟩
theorem ok259 : FnOK Tryz.prog nm (cx.μ 259) F259 := ⟨Tryz.f186, _, Tryz.func186, by decide, rfl, by kernel_rfl, by kernel_rfl, by kernel_rfl, by decide⟩
theorem ok256 : FnOK Tryz.prog nm (cx.μ 256) F256 := ⟨Tryz.f198, _, Tryz.func198, by decide, rfl, by kernel_rfl, by kernel_rfl, by kernel_rfl, by decide⟩
theorem ok255 : FnOK Tryz.prog nm (cx.μ 255) F255 := ⟨Tryz.f130, _, Tryz.func130, by decide, rfl, by kernel_rfl, by kernel_rfl, by kernel_rfl, by decide⟩
theorem ok257 : FnOK Tryz.prog nm (cx.μ 257) F257 := ⟨Tryz.f199, _, Tryz.func199, by decide, rfl, by kernel_rfl, by kernel_rfl, by kernel_rfl, by decide⟩
theorem ok262 : FnOK Tryz.prog nm (cx.μ 262) F262 := ⟨Tryz.f406, _, Tryz.func406, by decide, rfl, by kernel_rfl, by kernel_rfl, by kernel_rfl, by decide⟩
theorem ok260 : FnOK Tryz.prog nm (cx.μ 260) F260 := ⟨Tryz.f187, _, Tryz.func187, by decide, rfl, by kernel_rfl, by kernel_rfl, by kernel_rfl, by decide⟩
theorem ok263 : FnOK Tryz.prog nm (cx.μ 263) F263 := ⟨Tryz.f407, _, Tryz.func407, by decide, rfl, by kernel_rfl, by kernel_rfl, by kernel_rfl, by decide⟩
theorem ok329 : FnOK Tryz.prog nm (cx.μ 329) F329 := ⟨Tryz.f502, _, Tryz.func502, by decide, rfl, by kernel_rfl, by kernel_rfl, by kernel_rfl, by decide⟩
theorem ok304 : FnOK Tryz.prog nm (cx.μ 304) F304 := ⟨Tryz.f98, _, Tryz.func98, by decide, rfl, by kernel_rfl, by kernel_rfl, by kernel_rfl, by decide⟩
theorem ok274 : FnOK Tryz.prog nm (cx.μ 274) F274 := ⟨Tryz.f205, _, Tryz.func205, by decide, rfl, by kernel_rfl, by kernel_rfl, by kernel_rfl, by decide⟩
theorem ok267 : FnOK Tryz.prog nm (cx.μ 267) F267 := ⟨Tryz.f411, _, Tryz.func411, by decide, rfl, by kernel_rfl, by kernel_rfl, by kernel_rfl, by decide⟩
theorem ok266 : FnOK Tryz.prog nm (cx.μ 266) F266 := ⟨Tryz.f410, _, Tryz.func410, by decide, rfl, by kernel_rfl, by kernel_rfl, by kernel_rfl, by decide⟩
theorem ok268 : FnOK Tryz.prog nm (cx.μ 268) F268 := ⟨Tryz.f412, _, Tryz.func412, by decide, rfl, by kernel_rfl, by kernel_rfl, by kernel_rfl, by decide⟩
theorem ok287 : FnOK Tryz.prog nm (cx.μ 287) F287 := ⟨Tryz.f61, _, Tryz.func61, by decide, rfl, by kernel_rfl, by kernel_rfl, by kernel_rfl, by decide⟩
theorem ok275 : FnOK Tryz.prog nm (cx.μ 275) F275 := ⟨Tryz.f367, _, Tryz.func367, by decide, rfl, by kernel_rfl, by kernel_rfl, by kernel_rfl, by decide⟩
theorem ok291 : FnOK Tryz.prog nm (cx.μ 291) F291 := ⟨Tryz.f40, _, Tryz.func40, by decide, rfl, by kernel_rfl, by kernel_rfl, by kernel_rfl, by decide⟩
theorem ok318 : FnOK Tryz.prog nm (cx.μ 318) F318 := ⟨Tryz.f500, _, Tryz.func500, by decide, rfl, by kernel_rfl, by kernel_rfl, by kernel_rfl, by decide⟩
theorem ok308 : FnOK Tryz.prog nm (cx.μ 308) F308 := ⟨Tryz.f102, _, Tryz.func102, by decide, rfl, by kernel_rfl, by kernel_rfl, by kernel_rfl, by decide⟩
theorem ok305 : FnOK Tryz.prog nm (cx.μ 305) F305 := ⟨Tryz.f99, _, Tryz.func99, by decide, rfl, by kernel_rfl, by kernel_rfl, by kernel_rfl, by decide⟩
theorem ok310 : FnOK Tryz.prog nm (cx.μ 310) F310 := ⟨Tryz.f62, _, Tryz.func62, by decide, rfl, by kernel_rfl, by kernel_rfl, by kernel_rfl, by decide⟩
theorem ok327 : FnOK Tryz.prog nm (cx.μ 327) F327 := ⟨Tryz.f510, _, Tryz.func510, by decide, rfl, by kernel_rfl, by kernel_rfl, by kernel_rfl, by decide⟩
theorem ok326 : FnOK Tryz.prog nm (cx.μ 326) F326 := ⟨Tryz.f509, _, Tryz.func509, by decide, rfl, by kernel_rfl, by kernel_rfl, by kernel_rfl, by decide⟩
theorem ok328 : FnOK Tryz.prog nm (cx.μ 328) F328 := ⟨Tryz.f501, _, Tryz.func501, by decide, rfl, by kernel_rfl, by kernel_rfl, by kernel_rfl, by decide⟩
theorem ok358 : FnOK Tryz.prog nm (cx.μ 358) F358 := ⟨Tryz.f133, _, Tryz.func133, by decide, rfl, by kernel_rfl, by kernel_rfl, by kernel_rfl, by decide⟩
theorem ok336 : FnOK Tryz.prog nm (cx.μ 336) F336 := ⟨Tryz.f60, _, Tryz.func60, by decide, rfl, by kernel_rfl, by kernel_rfl, by kernel_rfl, by decide⟩
theorem ok331 : FnOK Tryz.prog nm (cx.μ 331) F331 := ⟨Tryz.f504, _, Tryz.func504, by decide, rfl, by kernel_rfl, by kernel_rfl, by kernel_rfl, by decide⟩
theorem ok330 : FnOK Tryz.prog nm (cx.μ 330) F330 := ⟨Tryz.f503, _, Tryz.func503, by decide, rfl, by kernel_rfl, by kernel_rfl, by kernel_rfl, by decide⟩
theorem ok335 : FnOK Tryz.prog nm (cx.μ 335) F335 := ⟨Tryz.f260, _, Tryz.func260, by decide, rfl, by kernel_rfl, by kernel_rfl, by kernel_rfl, by decide⟩
theorem ok342 : FnOK Tryz.prog nm (cx.μ 342) F342 := ⟨Tryz.f456, _, Tryz.func456, by decide, rfl, by kernel_rfl, by kernel_rfl, by kernel_rfl, by decide⟩
theorem ok341 : FnOK Tryz.prog nm (cx.μ 341) F341 := ⟨Tryz.f455, _, Tryz.func455, by decide, rfl, by kernel_rfl, by kernel_rfl, by kernel_rfl, by decide⟩
theorem ok344 : FnOK Tryz.prog nm (cx.μ 344) F344 := ⟨Tryz.f459, _, Tryz.func459, by decide, rfl, by kernel_rfl, by kernel_rfl, by kernel_rfl, by decide⟩
theorem ok374 : FnOK Tryz.prog nm (cx.μ 374) F374 := ⟨Tryz.f391, _, Tryz.func391, by decide, rfl, by kernel_rfl, by kernel_rfl, by kernel_rfl, by decide⟩
theorem ok362 : FnOK Tryz.prog nm (cx.μ 362) F362 := ⟨Tryz.f544, _, Tryz.func544, by decide, rfl, by kernel_rfl, by kernel_rfl, by kernel_rfl, by decide⟩
theorem ok359 : FnOK Tryz.prog nm (cx.μ 359) F359 := ⟨Tryz.f134, _, Tryz.func134, by decide, rfl, by kernel_rfl, by kernel_rfl, by kernel_rfl, by decide⟩
theorem ok363 : FnOK Tryz.prog nm (cx.μ 363) F363 := ⟨Tryz.f545, _, Tryz.func545, by decide, rfl, by kernel_rfl, by kernel_rfl, by kernel_rfl, by decide⟩
theorem ok376 : FnOK Tryz.prog nm (cx.μ 376) F376 := ⟨Tryz.f539, _, Tryz.func539, by decide, rfl, by kernel_rfl, by kernel_rfl, by kernel_rfl, by decide⟩
theorem ok375 : FnOK Tryz.prog nm (cx.μ 375) F375 := ⟨Tryz.f543, _, Tryz.func543, by decide, rfl, by kernel_rfl, by kernel_rfl, by kernel_rfl, by decide⟩
theorem ok680 : FnOK Tryz.prog nm (cx.μ 680) F680 := ⟨Tryz.f195, _, Tryz.func195, by decide, rfl, by kernel_rfl, by kernel_rfl, by kernel_rfl, by decide⟩
theorem ok546 : FnOK Tryz.prog nm (cx.μ 546) F546 := ⟨Tryz.f177, _, Tryz.func177, by decide, rfl, by kernel_rfl, by kernel_rfl, by kernel_rfl, by decide⟩
theorem ok513 : FnOK Tryz.prog nm (cx.μ 513) F513 := ⟨Tryz.f117, _, Tryz.func117, by decide, rfl, by kernel_rfl, by kernel_rfl, by kernel_rfl, by decide⟩
theorem ok505 : FnOK Tryz.prog nm (cx.μ 505) F505 := ⟨Tryz.f109, _, Tryz.func109, by decide, rfl, by kernel_rfl, by kernel_rfl, by kernel_rfl, by decide⟩
theorem ok489 : FnOK Tryz.prog nm (cx.μ 489) F489 := ⟨Tryz.f53, _, Tryz.func53, by decide, rfl, by kernel_rfl, by kernel_rfl, by kernel_rfl, by decide⟩
theorem ok480 : FnOK Tryz.prog nm (cx.μ 480) F480 := ⟨Tryz.f28, _, Tryz.func28, by decide, rfl, by kernel_rfl, by kernel_rfl, by kernel_rfl, by decide⟩
theorem ok382 : FnOK Tryz.prog nm (cx.μ 382) F382 := ⟨Tryz.f494, _, Tryz.func494, by decide, rfl, by kernel_rfl, by kernel_rfl, by kernel_rfl, by decide⟩
theorem ok488 : FnOK Tryz.prog nm (cx.μ 488) F488 := ⟨Tryz.f52, _, Tryz.func52, by decide, rfl, by kernel_rfl, by kernel_rfl, by kernel_rfl, by decide⟩
theorem ok495 : FnOK Tryz.prog nm (cx.μ 495) F495 := ⟨Tryz.f419, _, Tryz.func419, by decide, rfl, by kernel_rfl, by kernel_rfl, by kernel_rfl, by decide⟩
theorem ok490 : FnOK Tryz.prog nm (cx.μ 490) F490 := ⟨Tryz.f54, _, Tryz.func54, by decide, rfl, by kernel_rfl, by kernel_rfl, by kernel_rfl, by decide⟩
theorem ok504 : FnOK Tryz.prog nm (cx.μ 504) F504 := ⟨Tryz.f108, _, Tryz.func108, by decide, rfl, by kernel_rfl, by kernel_rfl, by kernel_rfl, by decide⟩
theorem ok509 : FnOK Tryz.prog nm (cx.μ 509) F509 := ⟨Tryz.f113, _, Tryz.func113, by decide, rfl, by kernel_rfl, by kernel_rfl, by kernel_rfl, by decide⟩
theorem ok507 : FnOK Tryz.prog nm (cx.μ 507) F507 := ⟨Tryz.f111, _, Tryz.func111, by decide, rfl, by kernel_rfl, by kernel_rfl, by kernel_rfl, by decide⟩
theorem ok506 : FnOK Tryz.prog nm (cx.μ 506) F506 := ⟨Tryz.f110, _, Tryz.func110, by decide, rfl, by kernel_rfl, by kernel_rfl, by kernel_rfl, by decide⟩
theorem ok508 : FnOK Tryz.prog nm (cx.μ 508) F508 := ⟨Tryz.f112, _, Tryz.func112, by decide, rfl, by kernel_rfl, by kernel_rfl, by kernel_rfl, by decide⟩
theorem ok511 : FnOK Tryz.prog nm (cx.μ 511) F511 := ⟨Tryz.f115, _, Tryz.func115, by decide, rfl, by kernel_rfl, by kernel_rfl, by kernel_rfl, by decide⟩
theorem ok510 : FnOK Tryz.prog nm (cx.μ 510) F510 := ⟨Tryz.f114, _, Tryz.func114, by decide, rfl, by kernel_rfl, by kernel_rfl, by kernel_rfl, by decide⟩
theorem ok512 : FnOK Tryz.prog nm (cx.μ 512) F512 := ⟨Tryz.f116, _, Tryz.func116, by decide, rfl, by kernel_rfl, by kernel_rfl, by kernel_rfl, by decide⟩
theorem ok538 : FnOK Tryz.prog nm (cx.μ 538) F538 := ⟨Tryz.f169, _, Tryz.func169, by decide, rfl, by kernel_rfl, by kernel_rfl, by kernel_rfl, by decide⟩
theorem ok522 : FnOK Tryz.prog nm (cx.μ 522) F522 := ⟨Tryz.f465, _, Tryz.func465, by decide, rfl, by kernel_rfl, by kernel_rfl, by kernel_rfl, by decide⟩
theorem ok515 : FnOK Tryz.prog nm (cx.μ 515) F515 := ⟨Tryz.f119, _, Tryz.func119, by decide, rfl, by kernel_rfl, by kernel_rfl, by kernel_rfl, by decide⟩
theorem ok514 : FnOK Tryz.prog nm (cx.μ 514) F514 := ⟨Tryz.f118, _, Tryz.func118, by decide, rfl, by kernel_rfl, by kernel_rfl, by kernel_rfl, by decide⟩
theorem ok517 : FnOK Tryz.prog nm (cx.μ 517) F517 := ⟨Tryz.f15, _, Tryz.func15, by decide, rfl, by kernel_rfl, by kernel_rfl, by kernel_rfl, by decide⟩
theorem ok531 : FnOK Tryz.prog nm (cx.μ 531) F531 := ⟨Tryz.f18, _, Tryz.func18, by decide, rfl, by kernel_rfl, by kernel_rfl, by kernel_rfl, by decide⟩
theorem ok528 : FnOK Tryz.prog nm (cx.μ 528) F528 := ⟨Tryz.f10, _, Tryz.func10, by decide, rfl, by kernel_rfl, by kernel_rfl, by kernel_rfl, by decide⟩
theorem ok537 : FnOK Tryz.prog nm (cx.μ 537) F537 := ⟨Tryz.f168, _, Tryz.func168, by decide, rfl, by kernel_rfl, by kernel_rfl, by kernel_rfl, by decide⟩
theorem ok542 : FnOK Tryz.prog nm (cx.μ 542) F542 := ⟨Tryz.f173, _, Tryz.func173, by decide, rfl, by kernel_rfl, by kernel_rfl, by kernel_rfl, by decide⟩
theorem ok540 : FnOK Tryz.prog nm (cx.μ 540) F540 := ⟨Tryz.f171, _, Tryz.func171, by decide, rfl, by kernel_rfl, by kernel_rfl, by kernel_rfl, by decide⟩
theorem ok539 : FnOK Tryz.prog nm (cx.μ 539) F539 := ⟨Tryz.f170, _, Tryz.func170, by decide, rfl, by kernel_rfl, by kernel_rfl, by kernel_rfl, by decide⟩
theorem ok541 : FnOK Tryz.prog nm (cx.μ 541) F541 := ⟨Tryz.f172, _, Tryz.func172, by decide, rfl, by kernel_rfl, by kernel_rfl, by kernel_rfl, by decide⟩
theorem ok544 : FnOK Tryz.prog nm (cx.μ 544) F544 := ⟨Tryz.f175, _, Tryz.func175, by decide, rfl, by kernel_rfl, by kernel_rfl, by kernel_rfl, by decide⟩
theorem ok543 : FnOK Tryz.prog nm (cx.μ 543) F543 := ⟨Tryz.f174, _, Tryz.func174, by decide, rfl, by kernel_rfl, by kernel_rfl, by kernel_rfl, by decide⟩
theorem ok545 : FnOK Tryz.prog nm (cx.μ 545) F545 := ⟨Tryz.f176, _, Tryz.func176, by decide, rfl, by kernel_rfl, by kernel_rfl, by kernel_rfl, by decide⟩
theorem ok599 : FnOK Tryz.prog nm (cx.μ 599) F599 := ⟨Tryz.f240, _, Tryz.func240, by decide, rfl, by kernel_rfl, by kernel_rfl, by kernel_rfl, by decide⟩
theorem ok564 : FnOK Tryz.prog nm (cx.μ 564) F564 := ⟨Tryz.f17, _, Tryz.func17, by decide, rfl, by kernel_rfl, by kernel_rfl, by kernel_rfl, by decide⟩
theorem ok553 : FnOK Tryz.prog nm (cx.μ 553) F553 := ⟨Tryz.f183, _, Tryz.func183, by decide, rfl, by kernel_rfl, by kernel_rfl, by kernel_rfl, by decide⟩
theorem ok548 : FnOK Tryz.prog nm (cx.μ 548) F548 := ⟨Tryz.f125, _, Tryz.func125, by decide, rfl, by kernel_rfl, by kernel_rfl, by kernel_rfl, by decide⟩
theorem ok547 : FnOK Tryz.prog nm (cx.μ 547) F547 := ⟨Tryz.f178, _, Tryz.func178, by decide, rfl, by kernel_rfl, by kernel_rfl, by kernel_rfl, by decide⟩
theorem ok552 : FnOK Tryz.prog nm (cx.μ 552) F552 := ⟨Tryz.f182, _, Tryz.func182, by decide, rfl, by kernel_rfl, by kernel_rfl, by kernel_rfl, by decide⟩
theorem ok560 : FnOK Tryz.prog nm (cx.μ 560) F560 := ⟨Tryz.f23, _, Tryz.func23, by decide, rfl, by kernel_rfl, by kernel_rfl, by kernel_rfl, by decide⟩
theorem ok554 : FnOK Tryz.prog nm (cx.μ 554) F554 := ⟨Tryz.f184, _, Tryz.func184, by decide, rfl, by kernel_rfl, by kernel_rfl, by kernel_rfl, by decide⟩
theorem ok561 : FnOK Tryz.prog nm (cx.μ 561) F561 := ⟨Tryz.f12, _, Tryz.func12, by decide, rfl, by kernel_rfl, by kernel_rfl, by kernel_rfl, by decide⟩
theorem ok594 : FnOK Tryz.prog nm (cx.μ 594) F594 := ⟨Tryz.f362, _, Tryz.func362, by decide, rfl, by kernel_rfl, by kernel_rfl, by kernel_rfl, by decide⟩
theorem ok568 : FnOK Tryz.prog nm (cx.μ 568) F568 := ⟨Tryz.f34, _, Tryz.func34, by decide, rfl, by kernel_rfl, by kernel_rfl, by kernel_rfl, by decide⟩
theorem ok567 : FnOK Tryz.prog nm (cx.μ 567) F567 := ⟨Tryz.f32, _, Tryz.func32, by decide, rfl, by kernel_rfl, by kernel_rfl, by kernel_rfl, by decide⟩
theorem ok569 : FnOK Tryz.prog nm (cx.μ 569) F569 := ⟨Tryz.f35, _, Tryz.func35, by decide, rfl, by kernel_rfl, by kernel_rfl, by kernel_rfl, by decide⟩
theorem ok596 : FnOK Tryz.prog nm (cx.μ 596) F596 := ⟨Tryz.f237, _, Tryz.func237, by decide, rfl, by kernel_rfl, by kernel_rfl, by kernel_rfl, by decide⟩
theorem ok595 : FnOK Tryz.prog nm (cx.μ 595) F595 := ⟨Tryz.f236, _, Tryz.func236, by decide, rfl, by kernel_rfl, by kernel_rfl, by kernel_rfl, by decide⟩
theorem ok598 : FnOK Tryz.prog nm (cx.μ 598) F598 := ⟨Tryz.f239, _, Tryz.func239, by decide, rfl, by kernel_rfl, by kernel_rfl, by kernel_rfl, by decide⟩
theorem ok612 : FnOK Tryz.prog nm (cx.μ 612) F612 := ⟨Tryz.f65, _, Tryz.func65, by decide, rfl, by kernel_rfl, by kernel_rfl, by kernel_rfl, by decide⟩
theorem ok605 : FnOK Tryz.prog nm (cx.μ 605) F605 := ⟨Tryz.f128, _, Tryz.func128, by decide, rfl, by kernel_rfl, by kernel_rfl, by kernel_rfl, by decide⟩
theorem ok603 : FnOK Tryz.prog nm (cx.μ 603) F603 := ⟨Tryz.f244, _, Tryz.func244, by decide, rfl, by kernel_rfl, by kernel_rfl, by kernel_rfl, by decide⟩
theorem ok600 : FnOK Tryz.prog nm (cx.μ 600) F600 := ⟨Tryz.f241, _, Tryz.func241, by decide, rfl, by kernel_rfl, by kernel_rfl, by kernel_rfl, by decide⟩
theorem ok604 : FnOK Tryz.prog nm (cx.μ 604) F604 := ⟨Tryz.f127, _, Tryz.func127, by decide, rfl, by kernel_rfl, by kernel_rfl, by kernel_rfl, by decide⟩
theorem ok607 : FnOK Tryz.prog nm (cx.μ 607) F607 := ⟨Tryz.f188, _, Tryz.func188, by decide, rfl, by kernel_rfl, by kernel_rfl, by kernel_rfl, by decide⟩
theorem ok606 : FnOK Tryz.prog nm (cx.μ 606) F606 := ⟨Tryz.f192, _, Tryz.func192, by decide, rfl, by kernel_rfl, by kernel_rfl, by kernel_rfl, by decide⟩
theorem ok610 : FnOK Tryz.prog nm (cx.μ 610) F610 := ⟨Tryz.f59, _, Tryz.func59, by decide, rfl, by kernel_rfl, by kernel_rfl, by kernel_rfl, by decide⟩
theorem ok674 : FnOK Tryz.prog nm (cx.μ 674) F674 := ⟨Tryz.f421, _, Tryz.func421, by decide, rfl, by kernel_rfl, by kernel_rfl, by kernel_rfl, by decide⟩
theorem ok619 : FnOK Tryz.prog nm (cx.μ 619) F619 := ⟨Tryz.f72, _, Tryz.func72, by decide, rfl, by kernel_rfl, by kernel_rfl, by kernel_rfl, by decide⟩
theorem ok616 : FnOK Tryz.prog nm (cx.μ 616) F616 := ⟨Tryz.f69, _, Tryz.func69, by decide, rfl, by kernel_rfl, by kernel_rfl, by kernel_rfl, by decide⟩
theorem ok673 : FnOK Tryz.prog nm (cx.μ 673) F673 := ⟨Tryz.f418, _, Tryz.func418, by decide, rfl, by kernel_rfl, by kernel_rfl, by kernel_rfl, by decide⟩
theorem ok676 : FnOK Tryz.prog nm (cx.μ 676) F676 := ⟨Tryz.f311, _, Tryz.func311, by decide, rfl, by kernel_rfl, by kernel_rfl, by kernel_rfl, by decide⟩
theorem ok675 : FnOK Tryz.prog nm (cx.μ 675) F675 := ⟨Tryz.f422, _, Tryz.func422, by decide, rfl, by kernel_rfl, by kernel_rfl, by kernel_rfl, by decide⟩
theorem ok679 : FnOK Tryz.prog nm (cx.μ 679) F679 := ⟨Tryz.f123, _, Tryz.func123, by decide, rfl, by kernel_rfl, by kernel_rfl, by kernel_rfl, by decide⟩
theorem ok806 : FnOK Tryz.prog nm (cx.μ 806) F806 := ⟨Tryz.f417, _, Tryz.func417, by decide, rfl, by kernel_rfl, by kernel_rfl, by kernel_rfl, by decide⟩
theorem ok771 : FnOK Tryz.prog nm (cx.μ 771) F771 := ⟨Tryz.f191, _, Tryz.func191, by decide, rfl, by kernel_rfl, by kernel_rfl, by kernel_rfl, by decide⟩
theorem ok688 : FnOK Tryz.prog nm (cx.μ 688) F688 := ⟨Tryz.f138, _, Tryz.func138, by decide, rfl, by kernel_rfl, by kernel_rfl, by kernel_rfl, by decide⟩
theorem ok684 : FnOK Tryz.prog nm (cx.μ 684) F684 := ⟨Tryz.f249, _, Tryz.func249, by decide, rfl, by kernel_rfl, by kernel_rfl, by kernel_rfl, by decide⟩
theorem ok682 : FnOK Tryz.prog nm (cx.μ 682) F682 := ⟨Tryz.f247, _, Tryz.func247, by decide, rfl, by kernel_rfl, by kernel_rfl, by kernel_rfl, by decide⟩
theorem ok681 : FnOK Tryz.prog nm (cx.μ 681) F681 := ⟨Tryz.f196, _, Tryz.func196, by decide, rfl, by kernel_rfl, by kernel_rfl, by kernel_rfl, by decide⟩
theorem ok683 : FnOK Tryz.prog nm (cx.μ 683) F683 := ⟨Tryz.f248, _, Tryz.func248, by decide, rfl, by kernel_rfl, by kernel_rfl, by kernel_rfl, by decide⟩
theorem ok686 : FnOK Tryz.prog nm (cx.μ 686) F686 := ⟨Tryz.f131, _, Tryz.func131, by decide, rfl, by kernel_rfl, by kernel_rfl, by kernel_rfl, by decide⟩
theorem ok685 : FnOK Tryz.prog nm (cx.μ 685) F685 := ⟨Tryz.f189, _, Tryz.func189, by decide, rfl, by kernel_rfl, by kernel_rfl, by kernel_rfl, by decide⟩
theorem ok687 : FnOK Tryz.prog nm (cx.μ 687) F687 := ⟨Tryz.f137, _, Tryz.func137, by decide, rfl, by kernel_rfl, by kernel_rfl, by kernel_rfl, by decide⟩
theorem ok698 : FnOK Tryz.prog nm (cx.μ 698) F698 := ⟨Tryz.f149, _, Tryz.func149, by decide, rfl, by kernel_rfl, by kernel_rfl, by kernel_rfl, by decide⟩
theorem ok690 : FnOK Tryz.prog nm (cx.μ 690) F690 := ⟨Tryz.f140, _, Tryz.func140, by decide, rfl, by kernel_rfl, by kernel_rfl, by kernel_rfl, by decide⟩
theorem ok689 : FnOK Tryz.prog nm (cx.μ 689) F689 := ⟨Tryz.f139, _, Tryz.func139, by decide, rfl, by kernel_rfl, by kernel_rfl, by kernel_rfl, by decide⟩
theorem ok695 : FnOK Tryz.prog nm (cx.μ 695) F695 := ⟨Tryz.f145, _, Tryz.func145, by decide, rfl, by kernel_rfl, by kernel_rfl, by kernel_rfl, by decide⟩
theorem ok727 : FnOK Tryz.prog nm (cx.μ 727) F727 := ⟨Tryz.f361, _, Tryz.func361, by decide, rfl, by kernel_rfl, by kernel_rfl, by kernel_rfl, by decide⟩
theorem ok702 : FnOK Tryz.prog nm (cx.μ 702) F702 := ⟨Tryz.f153, _, Tryz.func153, by decide, rfl, by kernel_rfl, by kernel_rfl, by kernel_rfl, by decide⟩
theorem ok770 : FnOK Tryz.prog nm (cx.μ 770) F770 := ⟨Tryz.f190, _, Tryz.func190, by decide, rfl, by kernel_rfl, by kernel_rfl, by kernel_rfl, by decide⟩
theorem ok779 : FnOK Tryz.prog nm (cx.μ 779) F779 := ⟨Tryz.f202, _, Tryz.func202, by decide, rfl, by kernel_rfl, by kernel_rfl, by kernel_rfl, by decide⟩
theorem ok775 : FnOK Tryz.prog nm (cx.μ 775) F775 := ⟨Tryz.f258, _, Tryz.func258, by decide, rfl, by kernel_rfl, by kernel_rfl, by kernel_rfl, by decide⟩
theorem ok773 : FnOK Tryz.prog nm (cx.μ 773) F773 := ⟨Tryz.f256, _, Tryz.func256, by decide, rfl, by kernel_rfl, by kernel_rfl, by kernel_rfl, by decide⟩
theorem ok772 : FnOK Tryz.prog nm (cx.μ 772) F772 := ⟨Tryz.f255, _, Tryz.func255, by decide, rfl, by kernel_rfl, by kernel_rfl, by kernel_rfl, by decide⟩
theorem ok774 : FnOK Tryz.prog nm (cx.μ 774) F774 := ⟨Tryz.f257, _, Tryz.func257, by decide, rfl, by kernel_rfl, by kernel_rfl, by kernel_rfl, by decide⟩
theorem ok777 : FnOK Tryz.prog nm (cx.μ 777) F777 := ⟨Tryz.f200, _, Tryz.func200, by decide, rfl, by kernel_rfl, by kernel_rfl, by kernel_rfl, by decide⟩
theorem ok776 : FnOK Tryz.prog nm (cx.μ 776) F776 := ⟨Tryz.f259, _, Tryz.func259, by decide, rfl, by kernel_rfl, by kernel_rfl, by kernel_rfl, by decide⟩
theorem ok778 : FnOK Tryz.prog nm (cx.μ 778) F778 := ⟨Tryz.f201, _, Tryz.func201, by decide, rfl, by kernel_rfl, by kernel_rfl, by kernel_rfl, by decide⟩
theorem ok788 : FnOK Tryz.prog nm (cx.μ 788) F788 := ⟨Tryz.f221, _, Tryz.func221, by decide, rfl, by kernel_rfl, by kernel_rfl, by kernel_rfl, by decide⟩
theorem ok781 : FnOK Tryz.prog nm (cx.μ 781) F781 := ⟨Tryz.f5, _, Tryz.func5, by decide, rfl, by kernel_rfl, by kernel_rfl, by kernel_rfl, by decide⟩
theorem ok780 : FnOK Tryz.prog nm (cx.μ 780) F780 := ⟨Tryz.f203, _, Tryz.func203, by decide, rfl, by kernel_rfl, by kernel_rfl, by kernel_rfl, by decide⟩
theorem ok787 : FnOK Tryz.prog nm (cx.μ 787) F787 := ⟨Tryz.f212, _, Tryz.func212, by decide, rfl, by kernel_rfl, by kernel_rfl, by kernel_rfl, by decide⟩
theorem ok791 : FnOK Tryz.prog nm (cx.μ 791) F791 := ⟨Tryz.f225, _, Tryz.func225, by decide, rfl, by kernel_rfl, by kernel_rfl, by kernel_rfl, by decide⟩
theorem ok790 : FnOK Tryz.prog nm (cx.μ 790) F790 := ⟨Tryz.f224, _, Tryz.func224, by decide, rfl, by kernel_rfl, by kernel_rfl, by kernel_rfl, by decide⟩
theorem ok799 : FnOK Tryz.prog nm (cx.μ 799) F799 := ⟨Tryz.f261, _, Tryz.func261, by decide, rfl, by kernel_rfl, by kernel_rfl, by kernel_rfl, by decide⟩
theorem ok1008 : FnOK Tryz.prog nm (cx.μ 1008) F1008 := ⟨Tryz.f3, _, Tryz.func3, by decide, rfl, by kernel_rfl, by kernel_rfl, by kernel_rfl, by decide⟩
theorem ok869 : FnOK Tryz.prog nm (cx.μ 869) F869 := ⟨Tryz.f297, _, Tryz.func297, by decide, rfl, by kernel_rfl, by kernel_rfl, by kernel_rfl, by decide⟩
theorem ok864 : FnOK Tryz.prog nm (cx.μ 864) F864 := ⟨Tryz.f263, _, Tryz.func263, by decide, rfl, by kernel_rfl, by kernel_rfl, by kernel_rfl, by decide⟩
theorem ok862 : FnOK Tryz.prog nm (cx.μ 862) F862 := ⟨Tryz.f323, _, Tryz.func323, by decide, rfl, by kernel_rfl, by kernel_rfl, by kernel_rfl, by decide⟩
theorem ok861 : FnOK Tryz.prog nm (cx.μ 861) F861 := ⟨Tryz.f246, _, Tryz.func246, by decide, rfl, by kernel_rfl, by kernel_rfl, by kernel_rfl, by decide⟩
theorem ok863 : FnOK Tryz.prog nm (cx.μ 863) F863 := ⟨Tryz.f262, _, Tryz.func262, by decide, rfl, by kernel_rfl, by kernel_rfl, by kernel_rfl, by decide⟩
theorem ok867 : FnOK Tryz.prog nm (cx.μ 867) F867 := ⟨Tryz.f295, _, Tryz.func295, by decide, rfl, by kernel_rfl, by kernel_rfl, by kernel_rfl, by decide⟩
theorem ok866 : FnOK Tryz.prog nm (cx.μ 866) F866 := ⟨Tryz.f294, _, Tryz.func294, by decide, rfl, by kernel_rfl, by kernel_rfl, by kernel_rfl, by decide⟩
theorem ok868 : FnOK Tryz.prog nm (cx.μ 868) F868 := ⟨Tryz.f296, _, Tryz.func296, by decide, rfl, by kernel_rfl, by kernel_rfl, by kernel_rfl, by decide⟩
theorem ok894 : FnOK Tryz.prog nm (cx.μ 894) F894 := ⟨Tryz.f426, _, Tryz.func426, by decide, rfl, by kernel_rfl, by kernel_rfl, by kernel_rfl, by decide⟩
theorem ok872 : FnOK Tryz.prog nm (cx.μ 872) F872 := ⟨Tryz.f304, _, Tryz.func304, by decide, rfl, by kernel_rfl, by kernel_rfl, by kernel_rfl, by decide⟩
theorem ok871 : FnOK Tryz.prog nm (cx.μ 871) F871 := ⟨Tryz.f302, _, Tryz.func302, by decide, rfl, by kernel_rfl, by kernel_rfl, by kernel_rfl, by decide⟩
theorem ok893 : FnOK Tryz.prog nm (cx.μ 893) F893 := ⟨Tryz.f368, _, Tryz.func368, by decide, rfl, by kernel_rfl, by kernel_rfl, by kernel_rfl, by decide⟩
theorem ok930 : FnOK Tryz.prog nm (cx.μ 930) F930 := ⟨Tryz.f369, _, Tryz.func369, by decide, rfl, by kernel_rfl, by kernel_rfl, by kernel_rfl, by decide⟩
theorem ok926 : FnOK Tryz.prog nm (cx.μ 926) F926 := ⟨Tryz.f324, _, Tryz.func324, by decide, rfl, by kernel_rfl, by kernel_rfl, by kernel_rfl, by decide⟩
theorem ok933 : FnOK Tryz.prog nm (cx.μ 933) F933 := ⟨Tryz.f393, _, Tryz.func393, by decide, rfl, by kernel_rfl, by kernel_rfl, by kernel_rfl, by decide⟩
theorem ok1016 : FnOK Tryz.prog nm (cx.μ 1016) F1016 := ⟨Tryz.f124, _, Tryz.func124, by decide, rfl, by kernel_rfl, by kernel_rfl, by kernel_rfl, by decide⟩
theorem ok1012 : FnOK Tryz.prog nm (cx.μ 1012) F1012 := ⟨Tryz.f16, _, Tryz.func16, by decide, rfl, by kernel_rfl, by kernel_rfl, by kernel_rfl, by decide⟩
theorem ok1010 : FnOK Tryz.prog nm (cx.μ 1010) F1010 := ⟨Tryz.f7, _, Tryz.func7, by decide, rfl, by kernel_rfl, by kernel_rfl, by kernel_rfl, by decide⟩
theorem ok1009 : FnOK Tryz.prog nm (cx.μ 1009) F1009 := ⟨Tryz.f6, _, Tryz.func6, by decide, rfl, by kernel_rfl, by kernel_rfl, by kernel_rfl, by decide⟩
theorem ok1011 : FnOK Tryz.prog nm (cx.μ 1011) F1011 := ⟨Tryz.f14, _, Tryz.func14, by decide, rfl, by kernel_rfl, by kernel_rfl, by kernel_rfl, by decide⟩
theorem ok1014 : FnOK Tryz.prog nm (cx.μ 1014) F1014 := ⟨Tryz.f56, _, Tryz.func56, by decide, rfl, by kernel_rfl, by kernel_rfl, by kernel_rfl, by decide⟩
theorem ok1013 : FnOK Tryz.prog nm (cx.μ 1013) F1013 := ⟨Tryz.f31, _, Tryz.func31, by decide, rfl, by kernel_rfl, by kernel_rfl, by kernel_rfl, by decide⟩
theorem ok1015 : FnOK Tryz.prog nm (cx.μ 1015) F1015 := ⟨Tryz.f57, _, Tryz.func57, by decide, rfl, by kernel_rfl, by kernel_rfl, by kernel_rfl, by decide⟩
theorem ok1020 : FnOK Tryz.prog nm (cx.μ 1020) F1020 := ⟨Tryz.f250, _, Tryz.func250, by decide, rfl, by kernel_rfl, by kernel_rfl, by kernel_rfl, by decide⟩
theorem ok1018 : FnOK Tryz.prog nm (cx.μ 1018) F1018 := ⟨Tryz.f193, _, Tryz.func193, by decide, rfl, by kernel_rfl, by kernel_rfl, by kernel_rfl, by decide⟩
theorem ok1017 : FnOK Tryz.prog nm (cx.μ 1017) F1017 := ⟨Tryz.f126, _, Tryz.func126, by decide, rfl, by kernel_rfl, by kernel_rfl, by kernel_rfl, by decide⟩
theorem ok1019 : FnOK Tryz.prog nm (cx.μ 1019) F1019 := ⟨Tryz.f194, _, Tryz.func194, by decide, rfl, by kernel_rfl, by kernel_rfl, by kernel_rfl, by decide⟩
theorem ok1025 : FnOK Tryz.prog nm (cx.μ 1025) F1025 := ⟨Tryz.f314, _, Tryz.func314, by decide, rfl, by kernel_rfl, by kernel_rfl, by kernel_rfl, by decide⟩
theorem ok1021 : FnOK Tryz.prog nm (cx.μ 1021) F1021 := ⟨Tryz.f251, _, Tryz.func251, by decide, rfl, by kernel_rfl, by kernel_rfl, by kernel_rfl, by decide⟩
theorem fok : tabF.All fun n F => FnOK Tryz.prog nm (cx.μ n) F := ⟨ok377, ⟨ok168, ⟨ok47, ⟨ok30, ⟨ok22, ⟨ok18, ⟨ok12, ⟨ok10, trivial, trivial⟩, ⟨ok16, trivial, trivial⟩⟩, ⟨ok20, ⟨ok19, trivial, trivial⟩, ⟨ok21, trivial, trivial⟩⟩⟩, ⟨ok26, ⟨ok24, ⟨ok23, trivial, trivial⟩, ⟨ok25, trivial, trivial⟩⟩, ⟨ok28, ⟨ok27, trivial, trivial⟩, ⟨ok29, trivial, trivial⟩⟩⟩⟩, ⟨ok38, ⟨ok34, ⟨ok32, ⟨ok31, trivial, trivial⟩, ⟨ok33, trivial, trivial⟩⟩, ⟨ok36, ⟨ok35, trivial, trivial⟩, ⟨ok37, trivial, trivial⟩⟩⟩, ⟨ok42, ⟨ok40, ⟨ok39, trivial, trivial⟩, ⟨ok41, trivial, trivial⟩⟩, ⟨ok44, ⟨ok43, trivial, trivial⟩, ⟨ok46, trivial, trivial⟩⟩⟩⟩⟩, ⟨ok65, ⟨ok56, ⟨ok52, ⟨ok50, ⟨ok48, trivial, trivial⟩, ⟨ok51, trivial, trivial⟩⟩, ⟨ok54, ⟨ok53, trivial, trivial⟩, ⟨ok55, trivial, trivial⟩⟩⟩, ⟨ok61, ⟨ok58, ⟨ok57, trivial, trivial⟩, ⟨ok59, trivial, trivial⟩⟩, ⟨ok63, ⟨ok62, trivial, trivial⟩, ⟨ok64, trivial, trivial⟩⟩⟩⟩, ⟨ok100, ⟨ok71, ⟨ok68, ⟨ok66, trivial, trivial⟩, ⟨ok69, trivial, trivial⟩⟩, ⟨ok87, ⟨ok72, trivial, trivial⟩, ⟨ok88, trivial, trivial⟩⟩⟩, ⟨ok146, ⟨ok110, ⟨ok106, trivial, trivial⟩, ⟨ok111, trivial, trivial⟩⟩, ⟨ok155, ⟨ok154, trivial, trivial⟩, ⟨ok158, trivial, trivial⟩⟩⟩⟩⟩⟩, ⟨ok265, ⟨ok232, ⟨ok183, ⟨ok179, ⟨ok173, ⟨ok172, trivial, trivial⟩, ⟨ok177, trivial, trivial⟩⟩, ⟨ok181, ⟨ok180, trivial, trivial⟩, ⟨ok182, trivial, trivial⟩⟩⟩, ⟨ok191, ⟨ok185, ⟨ok184, trivial, trivial⟩, ⟨ok186, trivial, trivial⟩⟩, ⟨ok230, ⟨ok207, trivial, trivial⟩, ⟨ok231, trivial, trivial⟩⟩⟩⟩, ⟨ok254, ⟨ok243, ⟨ok234, ⟨ok233, trivial, trivial⟩, ⟨ok242, trivial, trivial⟩⟩, ⟨ok245, ⟨ok244, trivial, trivial⟩, ⟨ok246, trivial, trivial⟩⟩⟩, ⟨ok259, ⟨ok256, ⟨ok255, trivial, trivial⟩, ⟨ok257, trivial, trivial⟩⟩, ⟨ok262, ⟨ok260, trivial, trivial⟩, ⟨ok263, trivial, trivial⟩⟩⟩⟩⟩, ⟨ok329, ⟨ok304, ⟨ok274, ⟨ok267, ⟨ok266, trivial, trivial⟩, ⟨ok268, trivial, trivial⟩⟩, ⟨ok287, ⟨ok275, trivial, trivial⟩, ⟨ok291, trivial, trivial⟩⟩⟩, ⟨ok318, ⟨ok308, ⟨ok305, trivial, trivial⟩, ⟨ok310, trivial, trivial⟩⟩, ⟨ok327, ⟨ok326, trivial, trivial⟩, ⟨ok328, trivial, trivial⟩⟩⟩⟩, ⟨ok358, ⟨ok336, ⟨ok331, ⟨ok330, trivial, trivial⟩, ⟨ok335, trivial, trivial⟩⟩, ⟨ok342, ⟨ok341, trivial, trivial⟩, ⟨ok344, trivial, trivial⟩⟩⟩, ⟨ok374, ⟨ok362, ⟨ok359, trivial, trivial⟩, ⟨ok363, trivial, trivial⟩⟩, ⟨ok376, ⟨ok375, trivial, trivial⟩, trivial⟩⟩⟩⟩⟩⟩, ⟨ok680, ⟨ok546, ⟨ok513, ⟨ok505, ⟨ok489, ⟨ok480, ⟨ok382, trivial, trivial⟩, ⟨ok488, trivial, trivial⟩⟩, ⟨ok495, ⟨ok490, trivial, trivial⟩, ⟨ok504, trivial, trivial⟩⟩⟩, ⟨ok509, ⟨ok507, ⟨ok506, trivial, trivial⟩, ⟨ok508, trivial, trivial⟩⟩, ⟨ok511, ⟨ok510, trivial, trivial⟩, ⟨ok512, trivial, trivial⟩⟩⟩⟩, ⟨ok538, ⟨ok522, ⟨ok515, ⟨ok514, trivial, trivial⟩, ⟨ok517, trivial, trivial⟩⟩, ⟨ok531, ⟨ok528, trivial, trivial⟩, ⟨ok537, trivial, trivial⟩⟩⟩, ⟨ok542, ⟨ok540, ⟨ok539, trivial, trivial⟩, ⟨ok541, trivial, trivial⟩⟩, ⟨ok544, ⟨ok543, trivial, trivial⟩, ⟨ok545, trivial, trivial⟩⟩⟩⟩⟩, ⟨ok599, ⟨ok564, ⟨ok553, ⟨ok548, ⟨ok547, trivial, trivial⟩, ⟨ok552, trivial, trivial⟩⟩, ⟨ok560, ⟨ok554, trivial, trivial⟩, ⟨ok561, trivial, trivial⟩⟩⟩, ⟨ok594, ⟨ok568, ⟨ok567, trivial, trivial⟩, ⟨ok569, trivial, trivial⟩⟩, ⟨ok596, ⟨ok595, trivial, trivial⟩, ⟨ok598, trivial, trivial⟩⟩⟩⟩, ⟨ok612, ⟨ok605, ⟨ok603, ⟨ok600, trivial, trivial⟩, ⟨ok604, trivial, trivial⟩⟩, ⟨ok607, ⟨ok606, trivial, trivial⟩, ⟨ok610, trivial, trivial⟩⟩⟩, ⟨ok674, ⟨ok619, ⟨ok616, trivial, trivial⟩, ⟨ok673, trivial, trivial⟩⟩, ⟨ok676, ⟨ok675, trivial, trivial⟩, ⟨ok679, trivial, trivial⟩⟩⟩⟩⟩⟩, ⟨ok806, ⟨ok771, ⟨ok688, ⟨ok684, ⟨ok682, ⟨ok681, trivial, trivial⟩, ⟨ok683, trivial, trivial⟩⟩, ⟨ok686, ⟨ok685, trivial, trivial⟩, ⟨ok687, trivial, trivial⟩⟩⟩, ⟨ok698, ⟨ok690, ⟨ok689, trivial, trivial⟩, ⟨ok695, trivial, trivial⟩⟩, ⟨ok727, ⟨ok702, trivial, trivial⟩, ⟨ok770, trivial, trivial⟩⟩⟩⟩, ⟨ok779, ⟨ok775, ⟨ok773, ⟨ok772, trivial, trivial⟩, ⟨ok774, trivial, trivial⟩⟩, ⟨ok777, ⟨ok776, trivial, trivial⟩, ⟨ok778, trivial, trivial⟩⟩⟩, ⟨ok788, ⟨ok781, ⟨ok780, trivial, trivial⟩, ⟨ok787, trivial, trivial⟩⟩, ⟨ok791, ⟨ok790, trivial, trivial⟩, ⟨ok799, trivial, trivial⟩⟩⟩⟩⟩, ⟨ok1008, ⟨ok869, ⟨ok864, ⟨ok862, ⟨ok861, trivial, trivial⟩, ⟨ok863, trivial, trivial⟩⟩, ⟨ok867, ⟨ok866, trivial, trivial⟩, ⟨ok868, trivial, trivial⟩⟩⟩, ⟨ok894, ⟨ok872, ⟨ok871, trivial, trivial⟩, ⟨ok893, trivial, trivial⟩⟩, ⟨ok930, ⟨ok926, trivial, trivial⟩, ⟨ok933, trivial, trivial⟩⟩⟩⟩, ⟨ok1016, ⟨ok1012, ⟨ok1010, ⟨ok1009, trivial, trivial⟩, ⟨ok1011, trivial, trivial⟩⟩, ⟨ok1014, ⟨ok1013, trivial, trivial⟩, ⟨ok1015, trivial, trivial⟩⟩⟩, ⟨ok1020, ⟨ok1018, ⟨ok1017, trivial, trivial⟩, ⟨ok1019, trivial, trivial⟩⟩, ⟨ok1025, ⟨ok1021, trivial, trivial⟩, trivial⟩⟩⟩⟩⟩⟩⟩
theorem nok : NOK Tryz.prog nm cx TA52.G := nok_of (by kernel_rfl) (by kernel_rfl)
theorem clone147 : XOK Tryz.prog nm cx TA52.G 147 (.clone (K1 11) 88) := by
 refine ⟨⟨Tryz.f78, 39, _, _, (.a [(I 0), (I 0), (I 0), (I 0), (I 0), (I 0), (I 0), (I 0), (.i .u64 0), (I 0), (.i .u64 0)]), (K1 11), _, _, _, _, _, _, _, _, _, Tryz.func78, rfl, Tryz.underlying39, rfl, rfl, ?_, rfl, rfl, rfl, rfl, rfl, rfl, ?_, ?_⟩, Tryz.f78, Tryz.func78, rfl, by decide⟩
 ·kernel_rfl
 ·kernel_rfl
 ·kernel_rfl
theorem clone148 : XOK Tryz.prog nm cx TA52.G 148 (.clone (K1 10) 88) := by
 refine ⟨⟨Tryz.f79, 41, _, _, (.a [(I 0), (I 0), (I 0), (I 0), (I 0), (I 0), (I 0), (I 0), (I 0), (.s [])]), (K1 10), _, _, _, _, _, _, _, _, _, Tryz.func79, rfl, Tryz.underlying41, rfl, rfl, ?_, rfl, rfl, rfl, rfl, rfl, rfl, ?_, ?_⟩, Tryz.f79, Tryz.func79, rfl, by decide⟩
 ·kernel_rfl
 ·kernel_rfl
 ·kernel_rfl
theorem clone149 : XOK Tryz.prog nm cx TA52.G 149 (.clone (K1 7) 64) := by
 refine ⟨⟨Tryz.f80, 42, _, _, (.a [(I 0), (I 0), (I 0), (I 0), (I 0), (I 0), (.s [])]), (K1 7), _, _, _, _, _, _, _, _, _, Tryz.func80, rfl, Tryz.underlying42, rfl, rfl, ?_, rfl, rfl, rfl, rfl, rfl, rfl, ?_, ?_⟩, Tryz.f80, Tryz.func80, rfl, by decide⟩
 ·kernel_rfl
 ·kernel_rfl
 ·kernel_rfl
theorem clone150 : XOK Tryz.prog nm cx TA52.G 150 (.clone (K1 9) 80) := by
 refine ⟨⟨Tryz.f81, 43, _, _, (.a [(I 0), (I 0), (I 0), (I 0), (I 0), (I 0), (I 0), (I 0), (.s [])]), (K1 9), _, _, _, _, _, _, _, _, _, Tryz.func81, rfl, Tryz.underlying43, rfl, rfl, ?_, rfl, rfl, rfl, rfl, rfl, rfl, ?_, ?_⟩, Tryz.f81, Tryz.func81, rfl, by decide⟩
 ·kernel_rfl
 ·kernel_rfl
 ·kernel_rfl
theorem clone151 : XOK Tryz.prog nm cx TA52.G 151 (.clone (K1 7) 72) := by
 refine ⟨⟨Tryz.f82, 44, _, _, (.a [(.s []), (I 0), (I 0), (I 0), (I 0), (I 0), (.s [])]), (K1 7), _, _, _, _, _, _, _, _, _, Tryz.func82, rfl, Tryz.underlying44, rfl, rfl, ?_, rfl, rfl, rfl, rfl, rfl, rfl, ?_, ?_⟩, Tryz.f82, Tryz.func82, rfl, by decide⟩
 ·kernel_rfl
 ·kernel_rfl
 ·kernel_rfl
theorem clone152 : XOK Tryz.prog nm cx TA52.G 152 (.clone (K1 3) 32) := by
 refine ⟨⟨Tryz.f83, 46, _, _, (.a [(.s []), (I 0), (I 0)]), (K1 3), _, _, _, _, _, _, _, _, _, Tryz.func83, rfl, Tryz.underlying46, rfl, rfl, ?_, rfl, rfl, rfl, rfl, rfl, rfl, ?_, ?_⟩, Tryz.f83, Tryz.func83, rfl, by decide⟩
 ·kernel_rfl
 ·kernel_rfl
 ·kernel_rfl
theorem clone153 : XOK Tryz.prog nm cx TA52.G 153 (.clone (K1 5) 64) := by
 refine ⟨⟨Tryz.f84, 48, _, _, (.a [(I 0), (.s []), (.s []), (.s []), (.i .u64 0)]), (K1 5), _, _, _, _, _, _, _, _, _, Tryz.func84, rfl, Tryz.underlying48, rfl, rfl, ?_, rfl, rfl, rfl, rfl, rfl, rfl, ?_, ?_⟩, Tryz.f84, Tryz.func84, rfl, by decide⟩
 ·kernel_rfl
 ·kernel_rfl
 ·kernel_rfl
theorem clone160 : XOK Tryz.prog nm cx TA52.G 160 (.clone K0 8) := by
 refine ⟨⟨Tryz.f48, 106, _, _, (I 0), K0, _, _, _, _, _, _, _, _, _, Tryz.func48, rfl, Tryz.underlying106, rfl, rfl, ?_, rfl, rfl, rfl, rfl, rfl, rfl, ?_, ?_⟩, Tryz.f48, Tryz.func48, rfl, by decide⟩
 ·kernel_rfl
 ·kernel_rfl
 ·kernel_rfl
theorem clone161 : XOK Tryz.prog nm cx TA52.G 161 (.clone (K1 3) 24) := by
 refine ⟨⟨Tryz.f92, 51, _, _, (.a [(I 0), (I 0), (I 0)]), (K1 3), _, _, _, _, _, _, _, _, _, Tryz.func92, rfl, Tryz.underlying51, rfl, rfl, ?_, rfl, rfl, rfl, rfl, rfl, rfl, ?_, ?_⟩, Tryz.f92, Tryz.func92, rfl, by decide⟩
 ·kernel_rfl
 ·kernel_rfl
 ·kernel_rfl
theorem clone162 : XOK Tryz.prog nm cx TA52.G 162 (.clone (K1 3) 32) := by
 refine ⟨⟨Tryz.f93, 52, _, _, (.a [(I 0), (I 0), (.s [])]), (K1 3), _, _, _, _, _, _, _, _, _, Tryz.func93, rfl, Tryz.underlying52, rfl, rfl, ?_, rfl, rfl, rfl, rfl, rfl, rfl, ?_, ?_⟩, Tryz.f93, Tryz.func93, rfl, by decide⟩
 ·kernel_rfl
 ·kernel_rfl
 ·kernel_rfl
theorem clone225 : XOK Tryz.prog nm cx TA52.G 225 (.clone (K1 2) 24) := by
 refine ⟨⟨Tryz.f41, 27, _, _, (.a [(.s []), (I 0)]), (K1 2), _, _, _, _, _, _, _, _, _, Tryz.func41, rfl, Tryz.underlying27, rfl, rfl, ?_, rfl, rfl, rfl, rfl, rfl, rfl, ?_, ?_⟩, Tryz.f41, Tryz.func41, rfl, by decide⟩
 ·kernel_rfl
 ·kernel_rfl
 ·kernel_rfl
theorem clone226 : XOK Tryz.prog nm cx TA52.G 226 (.clone (K1 4) 40) := by
 refine ⟨⟨Tryz.f42, 29, _, _, (.a [(I 0), (I 0), (I 0), (.s [])]), (K1 4), _, _, _, _, _, _, _, _, _, Tryz.func42, rfl, Tryz.underlying29, rfl, rfl, ?_, rfl, rfl, rfl, rfl, rfl, rfl, ?_, ?_⟩, Tryz.f42, Tryz.func42, rfl, by decide⟩
 ·kernel_rfl
 ·kernel_rfl
 ·kernel_rfl
theorem clone227 : XOK Tryz.prog nm cx TA52.G 227 (.clone (K1 7) 80) := by
 refine ⟨⟨Tryz.f43, 33, _, _, (.a [(I 0), (I 0), (I 0), (I 0), (.s []), (.s []), (.s [])]), (K1 7), _, _, _, _, _, _, _, _, _, Tryz.func43, rfl, Tryz.underlying33, rfl, rfl, ?_, rfl, rfl, rfl, rfl, rfl, rfl, ?_, ?_⟩, Tryz.f43, Tryz.func43, rfl, by decide⟩
 ·kernel_rfl
 ·kernel_rfl
 ·kernel_rfl
theorem clone228 : XOK Tryz.prog nm cx TA52.G 228 (.clone (K1 6) 56) := by
 refine ⟨⟨Tryz.f44, 35, _, _, (.a [(I 0), (I 0), (I 0), (I 0), (I 0), (.s [])]), (K1 6), _, _, _, _, _, _, _, _, _, Tryz.func44, rfl, Tryz.underlying35, rfl, rfl, ?_, rfl, rfl, rfl, rfl, rfl, rfl, ?_, ?_⟩, Tryz.f44, Tryz.func44, rfl, by decide⟩
 ·kernel_rfl
 ·kernel_rfl
 ·kernel_rfl
theorem clone229 : XOK Tryz.prog nm cx TA52.G 229 (.clone (K1 7) 64) := by
 refine ⟨⟨Tryz.f45, 36, _, _, (.a [(I 0), (I 0), (I 0), (I 0), (I 0), (I 0), (.s [])]), (K1 7), _, _, _, _, _, _, _, _, _, Tryz.func45, rfl, Tryz.underlying36, rfl, rfl, ?_, rfl, rfl, rfl, rfl, rfl, rfl, ?_, ?_⟩, Tryz.f45, Tryz.func45, rfl, by decide⟩
 ·kernel_rfl
 ·kernel_rfl
 ·kernel_rfl
theorem clone15 : XOK Tryz.prog nm cx TA52.G 15 (.clone (K1 3) 32) := by
 refine ⟨⟨Tryz.f136, 67, _, _, (.a [(I 0), (I 0), (.s [])]), (K1 3), _, _, _, _, _, _, _, _, _, Tryz.func136, rfl, Tryz.underlying67, rfl, rfl, ?_, rfl, rfl, rfl, rfl, rfl, rfl, ?_, ?_⟩, Tryz.f136, Tryz.func136, rfl, by decide⟩
 ·kernel_rfl
 ·kernel_rfl
 ·kernel_rfl
theorem clone60 : XOK Tryz.prog nm cx TA52.G 60 (.clone (K1 2) 16) := by
 refine ⟨⟨Tryz.f161, 123, _, _, (.a [(I 0), (I 0)]), (K1 2), _, _, _, _, _, _, _, _, _, Tryz.func161, rfl, Tryz.underlying123, rfl, rfl, ?_, rfl, rfl, rfl, rfl, rfl, rfl, ?_, ?_⟩, Tryz.f161, Tryz.func161, rfl, by decide⟩
 ·kernel_rfl
 ·kernel_rfl
 ·kernel_rfl
end Go.Proofs.YtpjacfiddgajfaaGreatDoor

