/- The tables of this seat's types (sizes, fields' places, elements), and that they are the program's. Written by tab.py. -/
import Derived.Test.YtlokemkpgnngjaaGreatDoorProg
import Derived.Test.YtlokemkpgnngjaaGreatDoorCxC
import Derived.Lib.Builder
set_option maxRecDepth 100000
namespace Go.Proofs.YtlokemkpgnngjaaGreatDoor
def tt : Tab where
  st := [(7, [(0, 1, false), (1, 1, false), (2, 1, false), (3, 1, false)]), (8, [(0, 1, false), (1, 1, false), (2, 1, false), (3, 1, false)]), (13, [(0, 1, false), (1, 1, false)]), (14, [(0, 1, false), (1, 1, false)]), (18, [(0, 1, false)]), (19, [(0, 1, false)]), (24, [(0, 1, false), (1, 1, false), (2, 1, false), (3, 1, false), (4, 1, false)]), (25, [(0, 1, false), (1, 1, false), (2, 1, false), (3, 1, false), (4, 1, false)]),
    (29, [(0, 1, false), (1, 1, false), (2, 1, false), (3, 1, false), (4, 1, false), (5, 1, false), (6, 1, false), (7, 1, false)]), (30, [(0, 1, false), (1, 1, false), (2, 1, false), (3, 1, false), (4, 1, false), (5, 1, false), (6, 1, false), (7, 1, false)]), (31, [(0, 1, false), (1, 1, false), (2, 1, false), (3, 1, false)]), (32, [(0, 1, false), (1, 1, false), (2, 1, false), (3, 1, false)]), (34, [(0, 1, false), (1, 1, false), (2, 1, false)]), (35, [(0, 1, false), (1, 1, false), (2, 1, false)]), (74, [(0, 1, false), (1, 1, false), (2, 1, false), (3, 1, false), (4, 1, false), (5, 1, false)]), (75, [(0, 1, false), (1, 1, false), (2, 1, false), (3, 1, false), (4, 1, false), (5, 1, false)]),
    (81, [(0, 1, false), (1, 1, false), (2, 1, false), (3, 1, false), (4, 1, false), (5, 1, false)]), (82, [(0, 1, false), (1, 1, false), (2, 1, false), (3, 1, false), (4, 1, false), (5, 1, false)]), (88, [(0, 1, false), (1, 1, false), (2, 1, false), (3, 1, false), (4, 1, false), (5, 1, false), (6, 1, false), (7, 1, false), (8, 1, false), (9, 1, false)]), (89, [(0, 1, false), (1, 1, false), (2, 1, false), (3, 1, false), (4, 1, false), (5, 1, false), (6, 1, false), (7, 1, false), (8, 1, false), (9, 1, false)]), (105, [(0, 1, false), (1, 1, false), (2, 1, false), (3, 1, false)]), (106, [(0, 1, false), (1, 1, false), (2, 1, false), (3, 1, false)]), (107, [(0, 1, false), (1, 1, false)]), (108, [(0, 1, false), (1, 1, false)]),
    (110, [(0, 1, false), (1, 1, false)]), (111, [(0, 1, false), (1, 1, false)]), (115, [(0, 1, false), (1, 1, false)]), (116, [(0, 1, false), (1, 1, false)]), (126, [(0, 1, false), (1, 1, false), (2, 1, false)]), (127, [(0, 1, false), (1, 1, false), (2, 1, false)]), (129, [(0, 1, false), (1, 1, false), (2, 1, false), (3, 1, false), (4, 1, false)]), (130, [(0, 1, false), (1, 1, false), (2, 1, false), (3, 1, false), (4, 1, false)]),
    (143, [(0, 1, false), (1, 1, false), (2, 1, false), (3, 1, false), (4, 1, false), (5, 1, false)]), (144, [(0, 1, false), (1, 1, false), (2, 1, false), (3, 1, false), (4, 1, false), (5, 1, false)]), (151, [(0, 1, false), (1, 1, false), (2, 1, false)]), (152, [(0, 1, false), (1, 1, false), (2, 1, false)]), (165, [(0, 1, false), (1, 1, false), (2, 1, false), (3, 1, false), (4, 1, false), (5, 1, false)]), (166, [(0, 1, false), (1, 1, false), (2, 1, false), (3, 1, false), (4, 1, false), (5, 1, false)]), (172, [(0, 1, false), (1, 1, false), (2, 1, false), (3, 1, false), (4, 1, false), (5, 1, false)]), (173, [(0, 1, false), (1, 1, false), (2, 1, false), (3, 1, false), (4, 1, false), (5, 1, false)]),
    (180, [(0, 1, false), (1, 1, false), (2, 1, false), (3, 1, false), (4, 1, false)]), (181, [(0, 1, false), (1, 1, false), (2, 1, false), (3, 1, false), (4, 1, false)]), (189, [(0, 1, false), (1, 1, false)]), (190, [(0, 1, false), (1, 1, false)]), (194, [(0, 1, false), (1, 1, false), (2, 1, false)]), (195, [(0, 1, false), (1, 1, false), (2, 1, false)]), (197, [(0, 1, false), (1, 1, false)]), (198, [(0, 1, false), (1, 1, false)]),
    (212, [(0, 1, false), (1, 1, false), (2, 1, false), (3, 1, false), (4, 256, true), (260, 256, true)]), (213, [(0, 1, false), (1, 1, false), (2, 1, false), (3, 1, false), (4, 256, true), (260, 256, true)]), (226, [(0, 1, false), (1, 1, false), (2, 1, false)]), (227, [(0, 1, false), (1, 1, false), (2, 1, false)]), (231, [(0, 1, false), (1, 1, false), (2, 1, false), (3, 1, false), (4, 1, false), (5, 1, false)]), (232, [(0, 1, false), (1, 1, false), (2, 1, false), (3, 1, false), (4, 1, false), (5, 1, false)]), (238, [(0, 1, false), (1, 1, false), (2, 1, false), (3, 1, false)]), (239, [(0, 1, false), (1, 1, false), (2, 1, false), (3, 1, false)]),
    (249, [(0, 1, false), (1, 1, false), (2, 1, false), (3, 1, false)]), (250, [(0, 1, false), (1, 1, false), (2, 1, false), (3, 1, false)]), (254, [(0, 1, false), (1, 1, false), (2, 1, false), (3, 1, false), (4, 1, false)]), (255, [(0, 1, false), (1, 1, false), (2, 1, false), (3, 1, false), (4, 1, false)]), (294, [(0, 1, false), (1, 1, false), (2, 1, false), (3, 1, false)]), (295, [(0, 1, false), (1, 1, false), (2, 1, false), (3, 1, false)]), (301, [(0, 6, true), (6, 1, false)]), (302, [(0, 6, true), (6, 1, false)]),
    (303, [(0, 1, false), (1, 1, false), (2, 1, false), (3, 1, false), (4, 1, false), (5, 1, false), (6, 1, false)]), (304, [(0, 1, false), (1, 1, false), (2, 1, false), (3, 1, false), (4, 1, false), (5, 1, false), (6, 1, false)]), (307, [(0, 6, true), (6, 1, false)]), (308, [(0, 6, true), (6, 1, false)]), (319, [(0, 1, false), (1, 1, false)]), (320, [(0, 1, false), (1, 1, false)]), (321, [(0, 2, true), (2, 1, false)]), (322, [(0, 2, true), (2, 1, false)]),
    (361, [(0, 6, true), (6, 1, false)]), (362, [(0, 6, true), (6, 1, false)]), (396, [(0, 1, false), (1, 3, true)]), (397, [(0, 1, false), (1, 3, true)]), (407, [(0, 1, false), (1, 1, false)]), (408, [(0, 1, false), (1, 1, false)]), (439, [(0, 1, false), (1, 1, false), (2, 1, false), (3, 1, false), (4, 1, false)]), (440, [(0, 1, false), (1, 1, false), (2, 1, false), (3, 1, false), (4, 1, false)]),
    (455, [(0, 1, false), (1, 1, false), (2, 1, false)]), (456, [(0, 1, false), (1, 1, false), (2, 1, false)]), (471, [(0, 1, false), (1, 1, false)]), (472, [(0, 1, false), (1, 1, false)]), (481, [(0, 1, false), (1, 1, false), (2, 1, false), (3, 1, false)]), (482, [(0, 1, false), (1, 1, false), (2, 1, false), (3, 1, false)]), (491, [(0, 1, false), (1, 1, false), (2, 1, false), (3, 1, false), (4, 1, false), (5, 1, false), (6, 1, false), (7, 1, false), (8, 1, false), (9, 1, false), (10, 1, false)]), (492, [(0, 1, false), (1, 1, false), (2, 1, false), (3, 1, false), (4, 1, false), (5, 1, false), (6, 1, false), (7, 1, false), (8, 1, false), (9, 1, false), (10, 1, false)])]
  ty := [(1, 1, false), (2, 1, false), (3, 1, false), (4, 1, false), (5, 1, false), (6, 1, false), (7, 4, true), (8, 4, true),
    (9, 1, false), (10, 1, false), (11, 1, false), (12, 1, false), (13, 2, true), (14, 2, true), (15, 1, false), (16, 1, false),
    (17, 1, false), (18, 1, true), (19, 1, true), (20, 1, false), (21, 1, false), (22, 1, false), (23, 1, false), (24, 5, true),
    (25, 5, true), (26, 1, false), (27, 1, false), (28, 1, false), (29, 8, true), (30, 8, true), (31, 4, true), (32, 4, true),
    (33, 1, false), (34, 3, true), (35, 3, true), (36, 1, false), (37, 1, false), (38, 1, false), (39, 1, false), (40, 1, false),
    (41, 1, false), (42, 1, false), (43, 1, false), (44, 1, false), (45, 1, false), (46, 1, false), (47, 1, false), (48, 1, false),
    (50, 1, false), (51, 1, false), (52, 1, false), (53, 1, false), (54, 1, false), (55, 1, false), (56, 1, false), (58, 1, false),
    (59, 1, false), (60, 1, false), (61, 1, false), (62, 1, false), (63, 1, false), (64, 1, false), (65, 1, false), (66, 1, false),
    (67, 1, false), (68, 1, false), (69, 1, false), (70, 1, false), (71, 1, false), (72, 1, false), (73, 1, false), (74, 6, true),
    (75, 6, true), (76, 1, false), (78, 1, false), (79, 1, false), (80, 1, false), (81, 6, true), (82, 6, true), (83, 1, false),
    (84, 1, false), (85, 1, false), (86, 1, false), (87, 1, false), (88, 10, true), (89, 10, true), (91, 1, false), (93, 1, false),
    (94, 1, false), (95, 1, false), (96, 1, false), (97, 1, false), (98, 1, false), (99, 1, false), (100, 1, false), (101, 1, false),
    (102, 1, false), (104, 1, false), (105, 4, true), (106, 4, true), (107, 2, true), (108, 2, true), (109, 1, false), (110, 2, true),
    (111, 2, true), (112, 1, false), (113, 1, false), (114, 1, false), (115, 2, true), (116, 2, true), (117, 1, false), (119, 1, false),
    (120, 1, false), (121, 1, false), (122, 1, false), (124, 1, false), (125, 1, false), (126, 3, true), (127, 3, true), (128, 1, false),
    (129, 5, true), (130, 5, true), (132, 1, false), (133, 1, false), (134, 1, false), (136, 1, false), (138, 1, false), (139, 1, false),
    (140, 1, false), (141, 1, false), (142, 1, false), (143, 6, true), (144, 6, true), (146, 1, false), (148, 1, false), (149, 1, false),
    (150, 1, false), (151, 3, true), (152, 3, true), (153, 1, false), (154, 8, true), (156, 1, false), (157, 1, false), (158, 1, false),
    (159, 1, false), (160, 1, false), (161, 1, false), (162, 1, false), (163, 1, false), (164, 1, false), (165, 6, true), (166, 6, true),
    (167, 1, false), (168, 1, false), (170, 1, false), (171, 1, false), (172, 6, true), (173, 6, true), (174, 1, false), (176, 1, false),
    (177, 1, false), (178, 1, false), (179, 1, false), (180, 5, true), (181, 5, true), (182, 1, false), (184, 1, false), (185, 1, false),
    (187, 1, false), (188, 1, false), (189, 2, true), (190, 2, true), (191, 1, false), (192, 1, false), (193, 1, false), (194, 3, true),
    (195, 3, true), (196, 1, false), (197, 2, true), (198, 2, true), (199, 1, false), (201, 1, false), (203, 1, false), (204, 1, false),
    (205, 1, false), (206, 1, false), (207, 1, false), (208, 1, false), (209, 1, false), (210, 16, true), (211, 256, true), (212, 516, true),
    (213, 516, true), (214, 1, false), (215, 1, false), (217, 1, false), (218, 1, false), (219, 1, false), (221, 1, false), (222, 1, false),
    (223, 1, false), (224, 1, false), (225, 1, false), (226, 3, true), (227, 3, true), (228, 1, false), (229, 1, false), (230, 1, false),
    (231, 6, true), (232, 6, true), (233, 1, false), (234, 1, false), (235, 1, false), (236, 1, false), (237, 1, false), (238, 4, true),
    (239, 4, true), (240, 1, false), (241, 1, false), (242, 1, false), (243, 4, true), (244, 1, false), (245, 1, false), (247, 1, false),
    (248, 1, false), (249, 4, true), (250, 4, true), (251, 1, false), (253, 1, false), (254, 5, true), (255, 5, true), (256, 1, false),
    (257, 1, false), (258, 1, false), (260, 1, false), (261, 1, false), (262, 1, false), (263, 1, false), (264, 1, false), (265, 1, false),
    (266, 1, false), (267, 2, true), (268, 1, false), (269, 1, false), (270, 1, false), (271, 1, false), (272, 1, false), (273, 1, false),
    (274, 1, false), (275, 1, false), (276, 1, false), (277, 1, false), (278, 1, false), (279, 1, false), (280, 1, false), (281, 1, false),
    (282, 1, false), (283, 1, false), (284, 1, false), (285, 1, false), (286, 1, false), (287, 1, false), (288, 1, false), (289, 1, false),
    (290, 1, false), (291, 1, false), (292, 1, false), (293, 1, false), (294, 4, true), (295, 4, true), (296, 1, false), (297, 1, false),
    (298, 1, false), (300, 1, false), (301, 7, true), (302, 7, true), (303, 7, true), (304, 7, true), (305, 1, false), (306, 1, false),
    (307, 7, true), (308, 7, true), (309, 1, false), (310, 1, false), (311, 1, false), (312, 1, false), (314, 1, false), (316, 1, false),
    (317, 1, false), (318, 1, false), (319, 2, true), (320, 2, true), (321, 3, true), (322, 3, true), (323, 1, false), (324, 1, false),
    (325, 1, false), (327, 1, false), (328, 1, false), (329, 1, false), (330, 1, false), (331, 1, false), (332, 1, false), (333, 1, false),
    (334, 1, false), (335, 1, false), (336, 1, false), (337, 1, false), (338, 1, false), (339, 1, false), (341, 1, false), (342, 2, true),
    (343, 1, false), (344, 1, false), (345, 1, false), (346, 1, false), (347, 1, false), (348, 1, false), (349, 1, false), (350, 1, false),
    (351, 1, false), (352, 1, false), (353, 1, false), (354, 1, false), (355, 1, false), (356, 1, false), (357, 1, false), (358, 1, false),
    (359, 1, false), (360, 1, false), (361, 7, true), (362, 7, true), (363, 1, false), (364, 1, false), (365, 1, false), (366, 1, false),
    (367, 1, false), (368, 1, false), (370, 1, false), (371, 1, false), (372, 1, false), (373, 1, false), (374, 1, false), (376, 1, false),
    (377, 1, false), (378, 1, false), (379, 1, false), (380, 1, false), (381, 1, false), (383, 1, false), (384, 1, false), (385, 1, false),
    (386, 1, false), (387, 1, false), (389, 1, false), (390, 1, false), (391, 1, false), (392, 1, false), (393, 1, false), (394, 1, false),
    (395, 1, false), (396, 4, true), (397, 4, true), (398, 1, false), (399, 1, false), (400, 1, false), (401, 1, false), (402, 1, false),
    (403, 1, false), (404, 1, false), (405, 1, false), (406, 1, false), (407, 2, true), (408, 2, true), (409, 1, false), (410, 1, false),
    (411, 1, false), (412, 1, false), (413, 1, false), (414, 1, false), (415, 1, false), (416, 1, false), (417, 1, false), (418, 1, false),
    (419, 1, false), (420, 1, false), (421, 1, false), (422, 1, false), (423, 1, false), (424, 1, false), (425, 1, false), (426, 1, false),
    (427, 1, false), (428, 1, false), (429, 1, false), (430, 1, false), (431, 1, false), (432, 1, false), (434, 1, false), (435, 1, false),
    (437, 1, false), (438, 1, false), (439, 5, true), (440, 5, true), (442, 1, false), (443, 1, false), (445, 1, false), (446, 1, false),
    (447, 1, false), (448, 1, false), (449, 1, false), (450, 1, false), (451, 1, false), (453, 1, false), (454, 1, false), (455, 3, true),
    (456, 3, true), (457, 1, false), (458, 1, false), (459, 1, false), (460, 24, true), (461, 1, false), (463, 1, false), (464, 1, false),
    (465, 1, false), (466, 1, false), (467, 20, true), (468, 65, true), (469, 1, false), (470, 256, true), (471, 2, true), (472, 2, true),
    (473, 32, true), (474, 1, false), (475, 1, false), (476, 1, false), (478, 1, false), (479, 32, true), (480, 64, true), (481, 4, true),
    (482, 4, true), (486, 1, false), (487, 1, false), (488, 1, false), (489, 1, false), (490, 1, false), (491, 11, true), (492, 11, true)]
  sl := [(22, 25, 5, true), (23, 30, 8, true), (26, 3, 1, false), (27, 190, 2, true), (28, 4, 1, false), (43, 9, 1, false), (47, 122, 1, false), (51, 108, 2, true),
    (65, 111, 2, true), (70, 75, 6, true), (72, 106, 4, true), (73, 144, 6, true), (79, 116, 2, true), (80, 173, 6, true), (84, 302, 7, true), (85, 304, 7, true),
    (86, 308, 7, true), (87, 89, 10, true), (117, 397, 4, true), (122, 127, 3, true), (140, 47, 1, false), (141, 227, 3, true), (162, 35, 3, true), (171, 239, 4, true),
    (179, 250, 4, true), (185, 408, 2, true), (209, 208, 1, false), (318, 5, 1, false), (339, 342, 2, true), (344, 26, 1, false)]
  ik := [(2, .i64), (3, .i64), (5, .u8), (6, .u8), (12, .u64), (21, .i32), (48, .i64), (193, .u64),
    (207, .u32), (208, .u32), (258, .i64), (266, .u64), (331, .u64), (486, .u8), (487, .u8), (489, .i32),
    (490, .i32)]
  lt := [9, 10, 11]
  xs := [322]
theorem idx_322 : IdX Tryz.prog 322 := fun v w => by
  have h3 := run_callFunc_extern (P := Tryz.prog) (f := 322) Tryz.func322 (by kernel_rfl) (by kernel_rfl) (by kernel_rfl) (e := Extern.AbiNoEscape.same) (by kernel_rfl) #[v] w
  rw [Lib.run_noEscape] at h3
  simpa [Result.andThen] using h3
theorem tt_ok : tt.Ok Tryz.prog := Tab.ok_of (by kernel_rfl) (by kernel_rfl) (by kernel_rfl) (by kernel_rfl) (by kernel_rfl) (fun x hx => by rw [List.mem_singleton.1 hx]; exact idx_322)
theorem mixed : Tryz.prog.follows .mixedOrders = true := by kernel_rfl
theorem z_2 : (Tryz.prog.info? 2).bind (·.zero) = some (.int .i64 0) := by kernel_rfl
theorem z_3 : (Tryz.prog.info? 3).bind (·.zero) = some (.int .i64 0) := by kernel_rfl
theorem z_4 : (Tryz.prog.info? 4).bind (·.zero) = some (.bool false) := by kernel_rfl
theorem z_5 : (Tryz.prog.info? 5).bind (·.zero) = some (.int .u8 0) := by kernel_rfl
theorem z_6 : (Tryz.prog.info? 6).bind (·.zero) = some (.int .u8 0) := by kernel_rfl
theorem z_7 : (Tryz.prog.info? 7).bind (·.zero) = some (.agg ⟨[.int .i64 0, .int .i64 0, .bool false, .int .u8 0]⟩) := by kernel_rfl
theorem z_8 : (Tryz.prog.info? 8).bind (·.zero) = some (.agg ⟨[.int .i64 0, .int .i64 0, .bool false, .int .u8 0]⟩) := by kernel_rfl
theorem z_9 : (Tryz.prog.info? 9).bind (·.zero) = some (.string ⟨#[]⟩) := by kernel_rfl
theorem z_10 : (Tryz.prog.info? 10).bind (·.zero) = some (.string ⟨#[]⟩) := by kernel_rfl
theorem z_11 : (Tryz.prog.info? 11).bind (·.zero) = some (.string ⟨#[]⟩) := by kernel_rfl
theorem z_12 : (Tryz.prog.info? 12).bind (·.zero) = some (.int .u64 0) := by kernel_rfl
theorem z_13 : (Tryz.prog.info? 13).bind (·.zero) = some (.agg ⟨[.string ⟨#[]⟩, .int .u64 0]⟩) := by kernel_rfl
theorem z_14 : (Tryz.prog.info? 14).bind (·.zero) = some (.agg ⟨[.string ⟨#[]⟩, .int .u64 0]⟩) := by kernel_rfl
theorem z_15 : (Tryz.prog.info? 15).bind (·.zero) = some (.pointer none) := by kernel_rfl
theorem z_16 : (Tryz.prog.info? 16).bind (·.zero) = some (.pointer none) := by kernel_rfl
theorem z_17 : (Tryz.prog.info? 17).bind (·.zero) = some (.pointer none) := by kernel_rfl
theorem z_18 : (Tryz.prog.info? 18).bind (·.zero) = some (.agg ⟨[.pointer none]⟩) := by kernel_rfl
theorem z_19 : (Tryz.prog.info? 19).bind (·.zero) = some (.agg ⟨[.pointer none]⟩) := by kernel_rfl
theorem z_21 : (Tryz.prog.info? 21).bind (·.zero) = some (.int .i32 0) := by kernel_rfl
theorem z_22 : (Tryz.prog.info? 22).bind (·.zero) = some (.slice none 0 0) := by kernel_rfl
theorem z_23 : (Tryz.prog.info? 23).bind (·.zero) = some (.slice none 0 0) := by kernel_rfl
theorem z_24 : (Tryz.prog.info? 24).bind (·.zero) = some (.agg ⟨[.int .i64 0, .int .i64 0, .string ⟨#[]⟩, .slice none 0 0, .slice none 0 0]⟩) := by kernel_rfl
theorem z_25 : (Tryz.prog.info? 25).bind (·.zero) = some (.agg ⟨[.int .i64 0, .int .i64 0, .string ⟨#[]⟩, .slice none 0 0, .slice none 0 0]⟩) := by kernel_rfl
theorem z_26 : (Tryz.prog.info? 26).bind (·.zero) = some (.slice none 0 0) := by kernel_rfl
theorem z_27 : (Tryz.prog.info? 27).bind (·.zero) = some (.slice none 0 0) := by kernel_rfl
theorem z_28 : (Tryz.prog.info? 28).bind (·.zero) = some (.slice none 0 0) := by kernel_rfl
theorem z_29 : (Tryz.prog.info? 29).bind (·.zero) = some (.agg ⟨[.int .i64 0, .int .i64 0, .slice none 0 0, .slice none 0 0, .slice none 0 0, .slice none 0 0, .slice none 0 0, .int .i64 0]⟩) := by kernel_rfl
theorem z_30 : (Tryz.prog.info? 30).bind (·.zero) = some (.agg ⟨[.int .i64 0, .int .i64 0, .slice none 0 0, .slice none 0 0, .slice none 0 0, .slice none 0 0, .slice none 0 0, .int .i64 0]⟩) := by kernel_rfl
theorem z_31 : (Tryz.prog.info? 31).bind (·.zero) = some (.agg ⟨[.int .i64 0, .slice none 0 0, .int .i64 0, .bool false]⟩) := by kernel_rfl
theorem z_32 : (Tryz.prog.info? 32).bind (·.zero) = some (.agg ⟨[.int .i64 0, .slice none 0 0, .int .i64 0, .bool false]⟩) := by kernel_rfl
theorem z_34 : (Tryz.prog.info? 34).bind (·.zero) = some (.agg ⟨[.int .i64 0, .int .i64 0, .bool false]⟩) := by kernel_rfl
theorem z_35 : (Tryz.prog.info? 35).bind (·.zero) = some (.agg ⟨[.int .i64 0, .int .i64 0, .bool false]⟩) := by kernel_rfl
theorem z_43 : (Tryz.prog.info? 43).bind (·.zero) = some (.slice none 0 0) := by kernel_rfl
theorem z_47 : (Tryz.prog.info? 47).bind (·.zero) = some (.slice none 0 0) := by kernel_rfl
theorem z_48 : (Tryz.prog.info? 48).bind (·.zero) = some (.int .i64 0) := by kernel_rfl
theorem z_51 : (Tryz.prog.info? 51).bind (·.zero) = some (.slice none 0 0) := by kernel_rfl
theorem z_64 : (Tryz.prog.info? 64).bind (·.zero) = some (.pointer none) := by kernel_rfl
theorem z_65 : (Tryz.prog.info? 65).bind (·.zero) = some (.slice none 0 0) := by kernel_rfl
theorem z_66 : (Tryz.prog.info? 66).bind (·.zero) = some (.pointer none) := by kernel_rfl
theorem z_70 : (Tryz.prog.info? 70).bind (·.zero) = some (.slice none 0 0) := by kernel_rfl
theorem z_72 : (Tryz.prog.info? 72).bind (·.zero) = some (.slice none 0 0) := by kernel_rfl
theorem z_73 : (Tryz.prog.info? 73).bind (·.zero) = some (.slice none 0 0) := by kernel_rfl
theorem z_74 : (Tryz.prog.info? 74).bind (·.zero) = some (.agg ⟨[.string ⟨#[]⟩, .int .i64 0, .slice none 0 0, .slice none 0 0, .int .i64 0, .slice none 0 0]⟩) := by kernel_rfl
theorem z_75 : (Tryz.prog.info? 75).bind (·.zero) = some (.agg ⟨[.string ⟨#[]⟩, .int .i64 0, .slice none 0 0, .slice none 0 0, .int .i64 0, .slice none 0 0]⟩) := by kernel_rfl
theorem z_79 : (Tryz.prog.info? 79).bind (·.zero) = some (.slice none 0 0) := by kernel_rfl
theorem z_80 : (Tryz.prog.info? 80).bind (·.zero) = some (.slice none 0 0) := by kernel_rfl
theorem z_81 : (Tryz.prog.info? 81).bind (·.zero) = some (.agg ⟨[.slice none 0 0, .slice none 0 0, .slice none 0 0, .slice none 0 0, .slice none 0 0, .int .i64 0]⟩) := by kernel_rfl
theorem z_82 : (Tryz.prog.info? 82).bind (·.zero) = some (.agg ⟨[.slice none 0 0, .slice none 0 0, .slice none 0 0, .slice none 0 0, .slice none 0 0, .int .i64 0]⟩) := by kernel_rfl
theorem z_84 : (Tryz.prog.info? 84).bind (·.zero) = some (.slice none 0 0) := by kernel_rfl
theorem z_85 : (Tryz.prog.info? 85).bind (·.zero) = some (.slice none 0 0) := by kernel_rfl
theorem z_86 : (Tryz.prog.info? 86).bind (·.zero) = some (.slice none 0 0) := by kernel_rfl
theorem z_87 : (Tryz.prog.info? 87).bind (·.zero) = some (.slice none 0 0) := by kernel_rfl
theorem z_88 : (Tryz.prog.info? 88).bind (·.zero) = some (.agg ⟨[.int .i64 0, .bool false, .slice none 0 0, .slice none 0 0, .slice none 0 0, .slice none 0 0, .slice none 0 0, .slice none 0 0, .int .i64 0, .slice none 0 0]⟩) := by kernel_rfl
theorem z_89 : (Tryz.prog.info? 89).bind (·.zero) = some (.agg ⟨[.int .i64 0, .bool false, .slice none 0 0, .slice none 0 0, .slice none 0 0, .slice none 0 0, .slice none 0 0, .slice none 0 0, .int .i64 0, .slice none 0 0]⟩) := by kernel_rfl
theorem z_99 : (Tryz.prog.info? 99).bind (·.zero) = some (.pointer none) := by kernel_rfl
theorem z_105 : (Tryz.prog.info? 105).bind (·.zero) = some (.agg ⟨[.string ⟨#[]⟩, .int .i64 0, .bool false, .int .i64 0]⟩) := by kernel_rfl
theorem z_106 : (Tryz.prog.info? 106).bind (·.zero) = some (.agg ⟨[.string ⟨#[]⟩, .int .i64 0, .bool false, .int .i64 0]⟩) := by kernel_rfl
theorem z_107 : (Tryz.prog.info? 107).bind (·.zero) = some (.agg ⟨[.string ⟨#[]⟩, .string ⟨#[]⟩]⟩) := by kernel_rfl
theorem z_108 : (Tryz.prog.info? 108).bind (·.zero) = some (.agg ⟨[.string ⟨#[]⟩, .string ⟨#[]⟩]⟩) := by kernel_rfl
theorem z_110 : (Tryz.prog.info? 110).bind (·.zero) = some (.agg ⟨[.string ⟨#[]⟩, .int .i64 0]⟩) := by kernel_rfl
theorem z_111 : (Tryz.prog.info? 111).bind (·.zero) = some (.agg ⟨[.string ⟨#[]⟩, .int .i64 0]⟩) := by kernel_rfl
theorem z_112 : (Tryz.prog.info? 112).bind (·.zero) = some (.pointer none) := by kernel_rfl
theorem z_115 : (Tryz.prog.info? 115).bind (·.zero) = some (.agg ⟨[.string ⟨#[]⟩, .string ⟨#[]⟩]⟩) := by kernel_rfl
theorem z_116 : (Tryz.prog.info? 116).bind (·.zero) = some (.agg ⟨[.string ⟨#[]⟩, .string ⟨#[]⟩]⟩) := by kernel_rfl
theorem z_117 : (Tryz.prog.info? 117).bind (·.zero) = some (.slice none 0 0) := by kernel_rfl
theorem z_121 : (Tryz.prog.info? 121).bind (·.zero) = some (.pointer none) := by kernel_rfl
theorem z_122 : (Tryz.prog.info? 122).bind (·.zero) = some (.slice none 0 0) := by kernel_rfl
theorem z_126 : (Tryz.prog.info? 126).bind (·.zero) = some (.agg ⟨[.int .i64 0, .int .i64 0, .string ⟨#[]⟩]⟩) := by kernel_rfl
theorem z_127 : (Tryz.prog.info? 127).bind (·.zero) = some (.agg ⟨[.int .i64 0, .int .i64 0, .string ⟨#[]⟩]⟩) := by kernel_rfl
theorem z_129 : (Tryz.prog.info? 129).bind (·.zero) = some (.agg ⟨[.pointer none, .slice none 0 0, .int .i64 0, .slice none 0 0, .nilFunc]⟩) := by kernel_rfl
theorem z_130 : (Tryz.prog.info? 130).bind (·.zero) = some (.agg ⟨[.pointer none, .slice none 0 0, .int .i64 0, .slice none 0 0, .nilFunc]⟩) := by kernel_rfl
theorem z_140 : (Tryz.prog.info? 140).bind (·.zero) = some (.slice none 0 0) := by kernel_rfl
theorem z_141 : (Tryz.prog.info? 141).bind (·.zero) = some (.slice none 0 0) := by kernel_rfl
theorem z_143 : (Tryz.prog.info? 143).bind (·.zero) = some (.agg ⟨[.int .i64 0, .int .i64 0, .string ⟨#[]⟩, .string ⟨#[]⟩, .slice none 0 0, .slice none 0 0]⟩) := by kernel_rfl
theorem z_144 : (Tryz.prog.info? 144).bind (·.zero) = some (.agg ⟨[.int .i64 0, .int .i64 0, .string ⟨#[]⟩, .string ⟨#[]⟩, .slice none 0 0, .slice none 0 0]⟩) := by kernel_rfl
theorem z_151 : (Tryz.prog.info? 151).bind (·.zero) = some (.agg ⟨[.pointer none, .slice none 0 0, .slice none 0 0]⟩) := by kernel_rfl
theorem z_152 : (Tryz.prog.info? 152).bind (·.zero) = some (.agg ⟨[.pointer none, .slice none 0 0, .slice none 0 0]⟩) := by kernel_rfl
theorem z_154 : (Tryz.prog.info? 154).bind (·.zero) = some (.agg ⟨[.int .i64 0, .slice none 0 0, .int .i64 0, .bool false, .int .i64 0, .slice none 0 0, .int .i64 0, .bool false]⟩) := by kernel_rfl
theorem z_159 : (Tryz.prog.info? 159).bind (·.zero) = some (.pointer none) := by kernel_rfl
theorem z_162 : (Tryz.prog.info? 162).bind (·.zero) = some (.slice none 0 0) := by kernel_rfl
theorem z_164 : (Tryz.prog.info? 164).bind (·.zero) = some (.map none) := by kernel_rfl
theorem z_165 : (Tryz.prog.info? 165).bind (·.zero) = some (.agg ⟨[.pointer none, .slice none 0 0, .map none, .slice none 0 0, .slice none 0 0, .int .i64 0]⟩) := by kernel_rfl
theorem z_166 : (Tryz.prog.info? 166).bind (·.zero) = some (.agg ⟨[.pointer none, .slice none 0 0, .map none, .slice none 0 0, .slice none 0 0, .int .i64 0]⟩) := by kernel_rfl
theorem z_171 : (Tryz.prog.info? 171).bind (·.zero) = some (.slice none 0 0) := by kernel_rfl
theorem z_172 : (Tryz.prog.info? 172).bind (·.zero) = some (.agg ⟨[.string ⟨#[]⟩, .string ⟨#[]⟩, .slice none 0 0, .slice none 0 0, .string ⟨#[]⟩, .slice none 0 0]⟩) := by kernel_rfl
theorem z_173 : (Tryz.prog.info? 173).bind (·.zero) = some (.agg ⟨[.string ⟨#[]⟩, .string ⟨#[]⟩, .slice none 0 0, .slice none 0 0, .string ⟨#[]⟩, .slice none 0 0]⟩) := by kernel_rfl
theorem z_177 : (Tryz.prog.info? 177).bind (·.zero) = some (.pointer none) := by kernel_rfl
theorem z_179 : (Tryz.prog.info? 179).bind (·.zero) = some (.slice none 0 0) := by kernel_rfl
theorem z_180 : (Tryz.prog.info? 180).bind (·.zero) = some (.agg ⟨[.slice none 0 0, .int .i64 0, .int .i64 0, .int .i64 0, .int .i64 0]⟩) := by kernel_rfl
theorem z_181 : (Tryz.prog.info? 181).bind (·.zero) = some (.agg ⟨[.slice none 0 0, .int .i64 0, .int .i64 0, .int .i64 0, .int .i64 0]⟩) := by kernel_rfl
theorem z_185 : (Tryz.prog.info? 185).bind (·.zero) = some (.slice none 0 0) := by kernel_rfl
theorem z_189 : (Tryz.prog.info? 189).bind (·.zero) = some (.agg ⟨[.string ⟨#[]⟩, .slice none 0 0]⟩) := by kernel_rfl
theorem z_190 : (Tryz.prog.info? 190).bind (·.zero) = some (.agg ⟨[.string ⟨#[]⟩, .slice none 0 0]⟩) := by kernel_rfl
theorem z_193 : (Tryz.prog.info? 193).bind (·.zero) = some (.int .u64 0) := by kernel_rfl
theorem z_194 : (Tryz.prog.info? 194).bind (·.zero) = some (.agg ⟨[.pointer none, .slice none 0 0, .slice none 0 0]⟩) := by kernel_rfl
theorem z_195 : (Tryz.prog.info? 195).bind (·.zero) = some (.agg ⟨[.pointer none, .slice none 0 0, .slice none 0 0]⟩) := by kernel_rfl
theorem z_196 : (Tryz.prog.info? 196).bind (·.zero) = some (.pointer none) := by kernel_rfl
theorem z_197 : (Tryz.prog.info? 197).bind (·.zero) = some (.agg ⟨[.pointer none, .slice none 0 0]⟩) := by kernel_rfl
theorem z_198 : (Tryz.prog.info? 198).bind (·.zero) = some (.agg ⟨[.pointer none, .slice none 0 0]⟩) := by kernel_rfl
theorem z_207 : (Tryz.prog.info? 207).bind (·.zero) = some (.int .u32 0) := by kernel_rfl
theorem z_208 : (Tryz.prog.info? 208).bind (·.zero) = some (.int .u32 0) := by kernel_rfl
theorem z_209 : (Tryz.prog.info? 209).bind (·.zero) = some (.slice none 0 0) := by kernel_rfl
theorem z_210 : (Tryz.prog.info? 210).bind (·.zero) = some (.agg ⟨[.int .i64 0, .int .i64 0, .int .i64 0, .int .i64 0, .int .i64 0, .int .i64 0, .int .i64 0, .int .i64 0, .int .i64 0, .int .i64 0, .int .i64 0, .int .i64 0, .int .i64 0, .int .i64 0, .int .i64 0, .int .i64 0]⟩) := by kernel_rfl
theorem z_226 : (Tryz.prog.info? 226).bind (·.zero) = some (.agg ⟨[.string ⟨#[]⟩, .string ⟨#[]⟩, .int .i64 0]⟩) := by kernel_rfl
theorem z_227 : (Tryz.prog.info? 227).bind (·.zero) = some (.agg ⟨[.string ⟨#[]⟩, .string ⟨#[]⟩, .int .i64 0]⟩) := by kernel_rfl
theorem z_230 : (Tryz.prog.info? 230).bind (·.zero) = some (.pointer none) := by kernel_rfl
theorem z_231 : (Tryz.prog.info? 231).bind (·.zero) = some (.agg ⟨[.pointer none, .slice none 0 0, .slice none 0 0, .slice none 0 0, .int .i64 0, .bool false]⟩) := by kernel_rfl
theorem z_232 : (Tryz.prog.info? 232).bind (·.zero) = some (.agg ⟨[.pointer none, .slice none 0 0, .slice none 0 0, .slice none 0 0, .int .i64 0, .bool false]⟩) := by kernel_rfl
theorem z_238 : (Tryz.prog.info? 238).bind (·.zero) = some (.agg ⟨[.string ⟨#[]⟩, .int .i64 0, .bool false, .string ⟨#[]⟩]⟩) := by kernel_rfl
theorem z_239 : (Tryz.prog.info? 239).bind (·.zero) = some (.agg ⟨[.string ⟨#[]⟩, .int .i64 0, .bool false, .string ⟨#[]⟩]⟩) := by kernel_rfl
theorem z_241 : (Tryz.prog.info? 241).bind (·.zero) = some (.pointer none) := by kernel_rfl
theorem z_243 : (Tryz.prog.info? 243).bind (·.zero) = some (.agg ⟨[.nilFunc, .nilFunc, .nilFunc, .nilFunc]⟩) := by kernel_rfl
theorem z_249 : (Tryz.prog.info? 249).bind (·.zero) = some (.agg ⟨[.int .i64 0, .string ⟨#[]⟩, .int .i64 0, .int .i64 0]⟩) := by kernel_rfl
theorem z_250 : (Tryz.prog.info? 250).bind (·.zero) = some (.agg ⟨[.int .i64 0, .string ⟨#[]⟩, .int .i64 0, .int .i64 0]⟩) := by kernel_rfl
theorem z_254 : (Tryz.prog.info? 254).bind (·.zero) = some (.agg ⟨[.pointer none, .slice none 0 0, .slice none 0 0, .int .i64 0, .slice none 0 0]⟩) := by kernel_rfl
theorem z_255 : (Tryz.prog.info? 255).bind (·.zero) = some (.agg ⟨[.pointer none, .slice none 0 0, .slice none 0 0, .int .i64 0, .slice none 0 0]⟩) := by kernel_rfl
theorem z_258 : (Tryz.prog.info? 258).bind (·.zero) = some (.int .i64 0) := by kernel_rfl
theorem z_266 : (Tryz.prog.info? 266).bind (·.zero) = some (.int .u64 0) := by kernel_rfl
theorem z_267 : (Tryz.prog.info? 267).bind (·.zero) = some (.agg ⟨[.slice none 0 0, .slice none 0 0]⟩) := by kernel_rfl
theorem z_293 : (Tryz.prog.info? 293).bind (·.zero) = some (.pointer none) := by kernel_rfl
theorem z_294 : (Tryz.prog.info? 294).bind (·.zero) = some (.agg ⟨[.string ⟨#[]⟩, .map none, .pointer none, .slice none 0 0]⟩) := by kernel_rfl
theorem z_295 : (Tryz.prog.info? 295).bind (·.zero) = some (.agg ⟨[.string ⟨#[]⟩, .map none, .pointer none, .slice none 0 0]⟩) := by kernel_rfl
theorem z_301 : (Tryz.prog.info? 301).bind (·.zero) = some (.agg ⟨[.int .i64 0, .int .i64 0, .string ⟨#[]⟩, .string ⟨#[]⟩, .slice none 0 0, .slice none 0 0, .string ⟨#[]⟩]⟩) := by kernel_rfl
theorem z_302 : (Tryz.prog.info? 302).bind (·.zero) = some (.agg ⟨[.int .i64 0, .int .i64 0, .string ⟨#[]⟩, .string ⟨#[]⟩, .slice none 0 0, .slice none 0 0, .string ⟨#[]⟩]⟩) := by kernel_rfl
theorem z_303 : (Tryz.prog.info? 303).bind (·.zero) = some (.agg ⟨[.int .i64 0, .string ⟨#[]⟩, .bool false, .string ⟨#[]⟩, .slice none 0 0, .slice none 0 0, .slice none 0 0]⟩) := by kernel_rfl
theorem z_304 : (Tryz.prog.info? 304).bind (·.zero) = some (.agg ⟨[.int .i64 0, .string ⟨#[]⟩, .bool false, .string ⟨#[]⟩, .slice none 0 0, .slice none 0 0, .slice none 0 0]⟩) := by kernel_rfl
theorem z_307 : (Tryz.prog.info? 307).bind (·.zero) = some (.agg ⟨[.int .i64 0, .int .i64 0, .string ⟨#[]⟩, .string ⟨#[]⟩, .slice none 0 0, .slice none 0 0, .bool false]⟩) := by kernel_rfl
theorem z_308 : (Tryz.prog.info? 308).bind (·.zero) = some (.agg ⟨[.int .i64 0, .int .i64 0, .string ⟨#[]⟩, .string ⟨#[]⟩, .slice none 0 0, .slice none 0 0, .bool false]⟩) := by kernel_rfl
theorem z_312 : (Tryz.prog.info? 312).bind (·.zero) = some (.pointer none) := by kernel_rfl
theorem z_317 : (Tryz.prog.info? 317).bind (·.zero) = some (.pointer none) := by kernel_rfl
theorem z_318 : (Tryz.prog.info? 318).bind (·.zero) = some (.slice none 0 0) := by kernel_rfl
theorem z_319 : (Tryz.prog.info? 319).bind (·.zero) = some (.agg ⟨[.pointer none, .slice none 0 0]⟩) := by kernel_rfl
theorem z_320 : (Tryz.prog.info? 320).bind (·.zero) = some (.agg ⟨[.pointer none, .slice none 0 0]⟩) := by kernel_rfl
theorem z_321 : (Tryz.prog.info? 321).bind (·.zero) = some (.agg ⟨[.pointer none, .slice none 0 0, .string ⟨#[]⟩]⟩) := by kernel_rfl
theorem z_322 : (Tryz.prog.info? 322).bind (·.zero) = some (.agg ⟨[.pointer none, .slice none 0 0, .string ⟨#[]⟩]⟩) := by kernel_rfl
theorem z_331 : (Tryz.prog.info? 331).bind (·.zero) = some (.int .u64 0) := by kernel_rfl
theorem z_335 : (Tryz.prog.info? 335).bind (·.zero) = some (.pointer none) := by kernel_rfl
theorem z_339 : (Tryz.prog.info? 339).bind (·.zero) = some (.slice none 0 0) := by kernel_rfl
theorem z_342 : (Tryz.prog.info? 342).bind (·.zero) = some (.agg ⟨[.int .i64 0, .int .i64 0]⟩) := by kernel_rfl
theorem z_344 : (Tryz.prog.info? 344).bind (·.zero) = some (.slice none 0 0) := by kernel_rfl
theorem z_360 : (Tryz.prog.info? 360).bind (·.zero) = some (.pointer none) := by kernel_rfl
theorem z_361 : (Tryz.prog.info? 361).bind (·.zero) = some (.agg ⟨[.string ⟨#[]⟩, .int .i64 0, .slice none 0 0, .slice none 0 0, .int .i64 0, .slice none 0 0, .slice none 0 0]⟩) := by kernel_rfl
theorem z_362 : (Tryz.prog.info? 362).bind (·.zero) = some (.agg ⟨[.string ⟨#[]⟩, .int .i64 0, .slice none 0 0, .slice none 0 0, .int .i64 0, .slice none 0 0, .slice none 0 0]⟩) := by kernel_rfl
theorem z_385 : (Tryz.prog.info? 385).bind (·.zero) = some (.pointer none) := by kernel_rfl
theorem z_396 : (Tryz.prog.info? 396).bind (·.zero) = some (.agg ⟨[.string ⟨#[]⟩, .int .i64 0, .int .i64 0, .string ⟨#[]⟩]⟩) := by kernel_rfl
theorem z_397 : (Tryz.prog.info? 397).bind (·.zero) = some (.agg ⟨[.string ⟨#[]⟩, .int .i64 0, .int .i64 0, .string ⟨#[]⟩]⟩) := by kernel_rfl
theorem z_407 : (Tryz.prog.info? 407).bind (·.zero) = some (.agg ⟨[.string ⟨#[]⟩, .int .i64 0]⟩) := by kernel_rfl
theorem z_408 : (Tryz.prog.info? 408).bind (·.zero) = some (.agg ⟨[.string ⟨#[]⟩, .int .i64 0]⟩) := by kernel_rfl
theorem z_410 : (Tryz.prog.info? 410).bind (·.zero) = some (.pointer none) := by kernel_rfl
theorem z_424 : (Tryz.prog.info? 424).bind (·.zero) = some (.map none) := by kernel_rfl
theorem z_439 : (Tryz.prog.info? 439).bind (·.zero) = some (.agg ⟨[.int .i64 0, .int .i64 0, .bool false, .bool false, .bool false]⟩) := by kernel_rfl
theorem z_440 : (Tryz.prog.info? 440).bind (·.zero) = some (.agg ⟨[.int .i64 0, .int .i64 0, .bool false, .bool false, .bool false]⟩) := by kernel_rfl
theorem z_454 : (Tryz.prog.info? 454).bind (·.zero) = some (.pointer none) := by kernel_rfl
theorem z_455 : (Tryz.prog.info? 455).bind (·.zero) = some (.agg ⟨[.string ⟨#[]⟩, .int .i64 0, .slice none 0 0]⟩) := by kernel_rfl
theorem z_456 : (Tryz.prog.info? 456).bind (·.zero) = some (.agg ⟨[.string ⟨#[]⟩, .int .i64 0, .slice none 0 0]⟩) := by kernel_rfl
theorem z_460 : (Tryz.prog.info? 460).bind (·.zero) = some (.agg ⟨[.int .u8 0, .int .u8 0, .int .u8 0, .int .u8 0, .int .u8 0, .int .u8 0, .int .u8 0, .int .u8 0, .int .u8 0, .int .u8 0, .int .u8 0, .int .u8 0, .int .u8 0, .int .u8 0, .int .u8 0, .int .u8 0, .int .u8 0, .int .u8 0, .int .u8 0, .int .u8 0, .int .u8 0, .int .u8 0, .int .u8 0, .int .u8 0]⟩) := by kernel_rfl
theorem z_467 : (Tryz.prog.info? 467).bind (·.zero) = some (.agg ⟨[.int .u64 0, .int .u64 0, .int .u64 0, .int .u64 0, .int .u64 0, .int .u64 0, .int .u64 0, .int .u64 0, .int .u64 0, .int .u64 0, .int .u64 0, .int .u64 0, .int .u64 0, .int .u64 0, .int .u64 0, .int .u64 0, .int .u64 0, .int .u64 0, .int .u64 0, .int .u64 0]⟩) := by kernel_rfl
theorem z_471 : (Tryz.prog.info? 471).bind (·.zero) = some (.agg ⟨[.int .u8 0, .int .u8 0]⟩) := by kernel_rfl
theorem z_472 : (Tryz.prog.info? 472).bind (·.zero) = some (.agg ⟨[.int .u8 0, .int .u8 0]⟩) := by kernel_rfl
theorem z_473 : (Tryz.prog.info? 473).bind (·.zero) = some (.agg ⟨[.int .u8 0, .int .u8 0, .int .u8 0, .int .u8 0, .int .u8 0, .int .u8 0, .int .u8 0, .int .u8 0, .int .u8 0, .int .u8 0, .int .u8 0, .int .u8 0, .int .u8 0, .int .u8 0, .int .u8 0, .int .u8 0, .int .u8 0, .int .u8 0, .int .u8 0, .int .u8 0, .int .u8 0, .int .u8 0, .int .u8 0, .int .u8 0, .int .u8 0, .int .u8 0, .int .u8 0, .int .u8 0, .int .u8 0, .int .u8 0, .int .u8 0, .int .u8 0]⟩) := by kernel_rfl
theorem z_479 : (Tryz.prog.info? 479).bind (·.zero) = some (.agg ⟨[.int .u8 0, .int .u8 0, .int .u8 0, .int .u8 0, .int .u8 0, .int .u8 0, .int .u8 0, .int .u8 0, .int .u8 0, .int .u8 0, .int .u8 0, .int .u8 0, .int .u8 0, .int .u8 0, .int .u8 0, .int .u8 0, .int .u8 0, .int .u8 0, .int .u8 0, .int .u8 0, .int .u8 0, .int .u8 0, .int .u8 0, .int .u8 0, .int .u8 0, .int .u8 0, .int .u8 0, .int .u8 0, .int .u8 0, .int .u8 0, .int .u8 0, .int .u8 0]⟩) := by kernel_rfl
theorem z_481 : (Tryz.prog.info? 481).bind (·.zero) = some (.agg ⟨[.pointer none, .pointer none, .pointer none, .string ⟨#[]⟩]⟩) := by kernel_rfl
theorem z_482 : (Tryz.prog.info? 482).bind (·.zero) = some (.agg ⟨[.pointer none, .pointer none, .pointer none, .string ⟨#[]⟩]⟩) := by kernel_rfl
theorem z_486 : (Tryz.prog.info? 486).bind (·.zero) = some (.int .u8 0) := by kernel_rfl
theorem z_487 : (Tryz.prog.info? 487).bind (·.zero) = some (.int .u8 0) := by kernel_rfl
theorem z_489 : (Tryz.prog.info? 489).bind (·.zero) = some (.int .i32 0) := by kernel_rfl
theorem z_490 : (Tryz.prog.info? 490).bind (·.zero) = some (.int .i32 0) := by kernel_rfl
theorem z_491 : (Tryz.prog.info? 491).bind (·.zero) = some (.agg ⟨[.int .u64 0, .int .u64 0, .int .u32 0, .int .u8 0, .int .u8 0, .int .u8 0, .int .u8 0, .nilFunc, .pointer none, .int .i32 0, .int .i32 0]⟩) := by kernel_rfl
theorem z_492 : (Tryz.prog.info? 492).bind (·.zero) = some (.agg ⟨[.int .u64 0, .int .u64 0, .int .u32 0, .int .u8 0, .int .u8 0, .int .u8 0, .int .u8 0, .nilFunc, .pointer none, .int .i32 0, .int .i32 0]⟩) := by kernel_rfl
theorem uk_2 : Tryz.prog.underlying 2 = some (.int .i64) := by kernel_rfl
theorem us_2 : (Tryz.prog.underlying 2).isSome = true := by kernel_rfl
theorem uk_3 : Tryz.prog.underlying 3 = some (.int .i64) := by kernel_rfl
theorem us_3 : (Tryz.prog.underlying 3).isSome = true := by kernel_rfl
theorem ub_4 : Tryz.prog.underlying 4 = some .bool := by kernel_rfl
theorem uk_5 : Tryz.prog.underlying 5 = some (.int .u8) := by kernel_rfl
theorem us_5 : (Tryz.prog.underlying 5).isSome = true := by kernel_rfl
theorem uk_6 : Tryz.prog.underlying 6 = some (.int .u8) := by kernel_rfl
theorem us_6 : (Tryz.prog.underlying 6).isSome = true := by kernel_rfl
theorem uk_9 : Tryz.prog.underlying 9 = some .string := by kernel_rfl
theorem us_9 : (Tryz.prog.underlying 9).isSome = true := by kernel_rfl
theorem uk_10 : Tryz.prog.underlying 10 = some .string := by kernel_rfl
theorem us_10 : (Tryz.prog.underlying 10).isSome = true := by kernel_rfl
theorem uk_11 : Tryz.prog.underlying 11 = some .string := by kernel_rfl
theorem us_11 : (Tryz.prog.underlying 11).isSome = true := by kernel_rfl
theorem uk_12 : Tryz.prog.underlying 12 = some (.int .u64) := by kernel_rfl
theorem us_12 : (Tryz.prog.underlying 12).isSome = true := by kernel_rfl
theorem up_15 : Tryz.prog.underlying 15 = some (.pointer 482) := by kernel_rfl
theorem up_16 : Tryz.prog.underlying 16 = some (.pointer 485) := by kernel_rfl
theorem up_17 : Tryz.prog.underlying 17 = some (.pointer 492) := by kernel_rfl
theorem uk_21 : Tryz.prog.underlying 21 = some (.int .i32) := by kernel_rfl
theorem us_21 : (Tryz.prog.underlying 21).isSome = true := by kernel_rfl
theorem us_22 : (Tryz.prog.underlying 22).isSome = true := by kernel_rfl
theorem ul_22 : Tryz.prog.underlying 22 = some (.slice 25) := by kernel_rfl
theorem us_23 : (Tryz.prog.underlying 23).isSome = true := by kernel_rfl
theorem ul_23 : Tryz.prog.underlying 23 = some (.slice 30) := by kernel_rfl
theorem us_26 : (Tryz.prog.underlying 26).isSome = true := by kernel_rfl
theorem ul_26 : Tryz.prog.underlying 26 = some (.slice 3) := by kernel_rfl
theorem us_27 : (Tryz.prog.underlying 27).isSome = true := by kernel_rfl
theorem ul_27 : Tryz.prog.underlying 27 = some (.slice 190) := by kernel_rfl
theorem us_28 : (Tryz.prog.underlying 28).isSome = true := by kernel_rfl
theorem ul_28 : Tryz.prog.underlying 28 = some (.slice 4) := by kernel_rfl
theorem us_43 : (Tryz.prog.underlying 43).isSome = true := by kernel_rfl
theorem ul_43 : Tryz.prog.underlying 43 = some (.slice 9) := by kernel_rfl
theorem us_47 : (Tryz.prog.underlying 47).isSome = true := by kernel_rfl
theorem ul_47 : Tryz.prog.underlying 47 = some (.slice 122) := by kernel_rfl
theorem uk_48 : Tryz.prog.underlying 48 = some (.int .i64) := by kernel_rfl
theorem us_48 : (Tryz.prog.underlying 48).isSome = true := by kernel_rfl
theorem us_51 : (Tryz.prog.underlying 51).isSome = true := by kernel_rfl
theorem ul_51 : Tryz.prog.underlying 51 = some (.slice 108) := by kernel_rfl
theorem up_64 : Tryz.prog.underlying 64 = some (.pointer 166) := by kernel_rfl
theorem us_65 : (Tryz.prog.underlying 65).isSome = true := by kernel_rfl
theorem ul_65 : Tryz.prog.underlying 65 = some (.slice 111) := by kernel_rfl
theorem up_66 : Tryz.prog.underlying 66 = some (.pointer 152) := by kernel_rfl
theorem us_70 : (Tryz.prog.underlying 70).isSome = true := by kernel_rfl
theorem ul_70 : Tryz.prog.underlying 70 = some (.slice 75) := by kernel_rfl
theorem us_72 : (Tryz.prog.underlying 72).isSome = true := by kernel_rfl
theorem ul_72 : Tryz.prog.underlying 72 = some (.slice 106) := by kernel_rfl
theorem us_73 : (Tryz.prog.underlying 73).isSome = true := by kernel_rfl
theorem ul_73 : Tryz.prog.underlying 73 = some (.slice 144) := by kernel_rfl
theorem us_79 : (Tryz.prog.underlying 79).isSome = true := by kernel_rfl
theorem ul_79 : Tryz.prog.underlying 79 = some (.slice 116) := by kernel_rfl
theorem us_80 : (Tryz.prog.underlying 80).isSome = true := by kernel_rfl
theorem ul_80 : Tryz.prog.underlying 80 = some (.slice 173) := by kernel_rfl
theorem us_84 : (Tryz.prog.underlying 84).isSome = true := by kernel_rfl
theorem ul_84 : Tryz.prog.underlying 84 = some (.slice 302) := by kernel_rfl
theorem us_85 : (Tryz.prog.underlying 85).isSome = true := by kernel_rfl
theorem ul_85 : Tryz.prog.underlying 85 = some (.slice 304) := by kernel_rfl
theorem us_86 : (Tryz.prog.underlying 86).isSome = true := by kernel_rfl
theorem ul_86 : Tryz.prog.underlying 86 = some (.slice 308) := by kernel_rfl
theorem us_87 : (Tryz.prog.underlying 87).isSome = true := by kernel_rfl
theorem ul_87 : Tryz.prog.underlying 87 = some (.slice 89) := by kernel_rfl
theorem up_99 : Tryz.prog.underlying 99 = some (.pointer 195) := by kernel_rfl
theorem up_112 : Tryz.prog.underlying 112 = some (.pointer 213) := by kernel_rfl
theorem us_117 : (Tryz.prog.underlying 117).isSome = true := by kernel_rfl
theorem ul_117 : Tryz.prog.underlying 117 = some (.slice 397) := by kernel_rfl
theorem up_121 : Tryz.prog.underlying 121 = some (.pointer 130) := by kernel_rfl
theorem us_122 : (Tryz.prog.underlying 122).isSome = true := by kernel_rfl
theorem ul_122 : Tryz.prog.underlying 122 = some (.slice 127) := by kernel_rfl
theorem us_140 : (Tryz.prog.underlying 140).isSome = true := by kernel_rfl
theorem ul_140 : Tryz.prog.underlying 140 = some (.slice 47) := by kernel_rfl
theorem us_141 : (Tryz.prog.underlying 141).isSome = true := by kernel_rfl
theorem ul_141 : Tryz.prog.underlying 141 = some (.slice 227) := by kernel_rfl
theorem ua_154 : Tryz.prog.underlying 154 = some (.array 2 32) := by kernel_rfl
theorem up_159 : Tryz.prog.underlying 159 = some (.pointer 32) := by kernel_rfl
theorem us_162 : (Tryz.prog.underlying 162).isSome = true := by kernel_rfl
theorem ul_162 : Tryz.prog.underlying 162 = some (.slice 35) := by kernel_rfl
theorem um_164 : Tryz.prog.underlying 164 = some (.map 9 3) := by kernel_rfl
theorem us_171 : (Tryz.prog.underlying 171).isSome = true := by kernel_rfl
theorem ul_171 : Tryz.prog.underlying 171 = some (.slice 239) := by kernel_rfl
theorem up_177 : Tryz.prog.underlying 177 = some (.pointer 181) := by kernel_rfl
theorem us_179 : (Tryz.prog.underlying 179).isSome = true := by kernel_rfl
theorem ul_179 : Tryz.prog.underlying 179 = some (.slice 250) := by kernel_rfl
theorem us_185 : (Tryz.prog.underlying 185).isSome = true := by kernel_rfl
theorem ul_185 : Tryz.prog.underlying 185 = some (.slice 408) := by kernel_rfl
theorem uk_193 : Tryz.prog.underlying 193 = some (.int .u64) := by kernel_rfl
theorem us_193 : (Tryz.prog.underlying 193).isSome = true := by kernel_rfl
theorem up_196 : Tryz.prog.underlying 196 = some (.pointer 198) := by kernel_rfl
theorem uk_207 : Tryz.prog.underlying 207 = some (.int .u32) := by kernel_rfl
theorem us_207 : (Tryz.prog.underlying 207).isSome = true := by kernel_rfl
theorem uk_208 : Tryz.prog.underlying 208 = some (.int .u32) := by kernel_rfl
theorem us_208 : (Tryz.prog.underlying 208).isSome = true := by kernel_rfl
theorem us_209 : (Tryz.prog.underlying 209).isSome = true := by kernel_rfl
theorem ul_209 : Tryz.prog.underlying 209 = some (.slice 208) := by kernel_rfl
theorem ua_210 : Tryz.prog.underlying 210 = some (.array 16 3) := by kernel_rfl
theorem ua_211 : Tryz.prog.underlying 211 = some (.array 16 210) := by kernel_rfl
theorem z_212 : (Tryz.prog.info? 212).bind (·.zero) = some (.agg ⟨[.slice none 0 0, .map none, .slice none 0 0, .slice none 0 0] ++ (arCells .i64 256 [] ++ (arCells .i64 256 [] ++ []))⟩) := by kernel_rfl
theorem z_213 : (Tryz.prog.info? 213).bind (·.zero) = some (.agg ⟨[.slice none 0 0, .map none, .slice none 0 0, .slice none 0 0] ++ (arCells .i64 256 [] ++ (arCells .i64 256 [] ++ []))⟩) := by kernel_rfl
theorem up_230 : Tryz.prog.underlying 230 = some (.pointer 232) := by kernel_rfl
theorem up_241 : Tryz.prog.underlying 241 = some (.pointer 75) := by kernel_rfl
theorem ua_243 : Tryz.prog.underlying 243 = some (.array 4 236) := by kernel_rfl
theorem uk_258 : Tryz.prog.underlying 258 = some (.int .i64) := by kernel_rfl
theorem us_258 : (Tryz.prog.underlying 258).isSome = true := by kernel_rfl
theorem uk_266 : Tryz.prog.underlying 266 = some (.int .u64) := by kernel_rfl
theorem us_266 : (Tryz.prog.underlying 266).isSome = true := by kernel_rfl
theorem ua_267 : Tryz.prog.underlying 267 = some (.array 2 47) := by kernel_rfl
theorem up_293 : Tryz.prog.underlying 293 = some (.pointer 295) := by kernel_rfl
theorem up_312 : Tryz.prog.underlying 312 = some (.pointer 322) := by kernel_rfl
theorem up_317 : Tryz.prog.underlying 317 = some (.pointer 320) := by kernel_rfl
theorem us_318 : (Tryz.prog.underlying 318).isSome = true := by kernel_rfl
theorem ul_318 : Tryz.prog.underlying 318 = some (.slice 5) := by kernel_rfl
theorem uk_331 : Tryz.prog.underlying 331 = some (.int .u64) := by kernel_rfl
theorem us_331 : (Tryz.prog.underlying 331).isSome = true := by kernel_rfl
theorem up_335 : Tryz.prog.underlying 335 = some (.pointer 3) := by kernel_rfl
theorem us_339 : (Tryz.prog.underlying 339).isSome = true := by kernel_rfl
theorem ul_339 : Tryz.prog.underlying 339 = some (.slice 342) := by kernel_rfl
theorem ua_342 : Tryz.prog.underlying 342 = some (.array 2 3) := by kernel_rfl
theorem us_344 : (Tryz.prog.underlying 344).isSome = true := by kernel_rfl
theorem ul_344 : Tryz.prog.underlying 344 = some (.slice 26) := by kernel_rfl
theorem up_360 : Tryz.prog.underlying 360 = some (.pointer 362) := by kernel_rfl
theorem up_385 : Tryz.prog.underlying 385 = some (.pointer 331) := by kernel_rfl
theorem up_410 : Tryz.prog.underlying 410 = some (.pointer 5) := by kernel_rfl
theorem um_424 : Tryz.prog.underlying 424 = some (.map 9 26) := by kernel_rfl
theorem up_454 : Tryz.prog.underlying 454 = some (.pointer 456) := by kernel_rfl
theorem ua_460 : Tryz.prog.underlying 460 = some (.array 24 5) := by kernel_rfl
theorem ua_467 : Tryz.prog.underlying 467 = some (.array 20 266) := by kernel_rfl
theorem ua_468 : Tryz.prog.underlying 468 = some (.array 65 5) := by kernel_rfl
theorem ua_470 : Tryz.prog.underlying 470 = some (.array 256 5) := by kernel_rfl
theorem ua_473 : Tryz.prog.underlying 473 = some (.array 16 472) := by kernel_rfl
theorem ua_479 : Tryz.prog.underlying 479 = some (.array 32 5) := by kernel_rfl
theorem ua_480 : Tryz.prog.underlying 480 = some (.array 64 5) := by kernel_rfl
theorem ua_483 : Tryz.prog.underlying 483 = some (.array 0 16) := by kernel_rfl
theorem uk_486 : Tryz.prog.underlying 486 = some (.int .u8) := by kernel_rfl
theorem us_486 : (Tryz.prog.underlying 486).isSome = true := by kernel_rfl
theorem uk_487 : Tryz.prog.underlying 487 = some (.int .u8) := by kernel_rfl
theorem us_487 : (Tryz.prog.underlying 487).isSome = true := by kernel_rfl
theorem uk_489 : Tryz.prog.underlying 489 = some (.int .i32) := by kernel_rfl
theorem us_489 : (Tryz.prog.underlying 489).isSome = true := by kernel_rfl
theorem uk_490 : Tryz.prog.underlying 490 = some (.int .i32) := by kernel_rfl
theorem us_490 : (Tryz.prog.underlying 490).isSome = true := by kernel_rfl
end Go.Proofs.YtlokemkpgnngjaaGreatDoor
