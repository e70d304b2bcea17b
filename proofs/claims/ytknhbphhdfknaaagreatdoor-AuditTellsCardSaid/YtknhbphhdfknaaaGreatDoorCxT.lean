/- The tables of this seat's types (sizes, fields' places, elements), and that they are the program's. Written by tab.py. -/
import Derived.Test.YtknhbphhdfknaaaGreatDoorProg
import Derived.Test.YtknhbphhdfknaaaGreatDoorCxC
import Derived.Lib.Builder
set_option maxRecDepth 100000
namespace Go.Proofs.YtknhbphhdfknaaaGreatDoor
def tt : Tab where
  st := [(7, [(0, 1, false), (1, 1, false), (2, 1, false), (3, 1, false)]), (8, [(0, 1, false), (1, 1, false), (2, 1, false), (3, 1, false)]), (13, [(0, 1, false), (1, 1, false)]), (14, [(0, 1, false), (1, 1, false)]), (18, [(0, 1, false)]), (19, [(0, 1, false)]), (25, [(0, 1, false), (1, 1, false), (2, 1, false), (3, 1, false), (4, 1, false), (5, 1, false)]), (26, [(0, 1, false), (1, 1, false), (2, 1, false), (3, 1, false), (4, 1, false), (5, 1, false)]),
    (35, [(0, 1, false), (1, 1, false), (2, 1, false), (3, 1, false), (4, 1, false)]), (36, [(0, 1, false), (1, 1, false), (2, 1, false), (3, 1, false), (4, 1, false)]), (42, [(0, 1, false), (1, 1, false), (2, 1, false), (3, 1, false), (4, 1, false), (5, 1, false)]), (43, [(0, 1, false), (1, 1, false), (2, 1, false), (3, 1, false), (4, 1, false), (5, 1, false)]), (51, [(0, 1, false), (1, 1, false), (2, 1, false), (3, 1, false)]), (52, [(0, 1, false), (1, 1, false), (2, 1, false), (3, 1, false)]), (53, [(0, 1, false), (1, 1, false)]), (54, [(0, 1, false), (1, 1, false)]),
    (55, [(0, 1, false), (1, 1, false)]), (56, [(0, 1, false), (1, 1, false)]), (73, [(0, 1, false), (1, 1, false), (2, 1, false), (3, 1, false), (4, 1, false), (5, 1, false), (6, 1, false), (7, 1, false), (8, 1, false), (9, 1, false)]), (74, [(0, 1, false), (1, 1, false), (2, 1, false), (3, 1, false), (4, 1, false), (5, 1, false), (6, 1, false), (7, 1, false), (8, 1, false), (9, 1, false)]), (81, [(0, 1, false), (1, 1, false), (2, 1, false), (3, 1, false), (4, 1, false), (5, 1, false), (6, 1, false), (7, 1, false)]), (82, [(0, 1, false), (1, 1, false), (2, 1, false), (3, 1, false), (4, 1, false), (5, 1, false), (6, 1, false), (7, 1, false)]), (85, [(0, 1, false), (1, 1, false), (2, 1, false), (3, 1, false)]), (86, [(0, 1, false), (1, 1, false), (2, 1, false), (3, 1, false)]),
    (93, [(0, 1, false), (1, 1, false)]), (94, [(0, 1, false), (1, 1, false)]), (98, [(0, 1, false), (1, 1, false)]), (99, [(0, 1, false), (1, 1, false)]), (110, [(0, 1, false), (1, 1, false), (2, 1, false), (3, 1, false), (4, 1, false), (5, 1, false)]), (111, [(0, 1, false), (1, 1, false), (2, 1, false), (3, 1, false), (4, 1, false), (5, 1, false)]), (113, [(0, 1, false), (1, 1, false), (2, 1, false), (3, 1, false), (4, 1, false), (5, 1, false)]), (114, [(0, 1, false), (1, 1, false), (2, 1, false), (3, 1, false), (4, 1, false), (5, 1, false)]),
    (129, [(0, 1, false), (1, 1, false), (2, 1, false), (3, 1, false), (4, 1, false)]), (130, [(0, 1, false), (1, 1, false), (2, 1, false), (3, 1, false), (4, 1, false)]), (144, [(0, 1, false), (1, 1, false), (2, 1, false), (3, 1, false), (4, 1, false), (5, 1, false)]), (145, [(0, 1, false), (1, 1, false), (2, 1, false), (3, 1, false), (4, 1, false), (5, 1, false)]), (146, [(0, 1, false), (1, 1, false), (2, 1, false)]), (147, [(0, 1, false), (1, 1, false), (2, 1, false)]), (159, [(0, 1, false), (1, 1, false), (2, 1, false), (3, 1, false), (4, 256, true), (260, 256, true)]), (160, [(0, 1, false), (1, 1, false), (2, 1, false), (3, 1, false), (4, 256, true), (260, 256, true)]),
    (164, [(0, 1, false), (1, 1, false), (2, 1, false), (3, 1, false)]), (165, [(0, 1, false), (1, 1, false), (2, 1, false), (3, 1, false)]), (185, [(0, 1, false), (1, 1, false), (2, 1, false), (3, 1, false)]), (186, [(0, 1, false), (1, 1, false), (2, 1, false), (3, 1, false)]), (190, [(0, 1, false), (1, 1, false), (2, 1, false), (3, 1, false), (4, 1, false)]), (191, [(0, 1, false), (1, 1, false), (2, 1, false), (3, 1, false), (4, 1, false)]), (205, [(0, 1, false), (1, 1, false), (2, 1, false), (3, 1, false)]), (206, [(0, 1, false), (1, 1, false), (2, 1, false), (3, 1, false)]),
    (217, [(0, 6, true), (6, 1, false)]), (218, [(0, 6, true), (6, 1, false)]), (219, [(0, 1, false), (1, 1, false), (2, 1, false), (3, 1, false), (4, 1, false), (5, 1, false), (6, 1, false)]), (220, [(0, 1, false), (1, 1, false), (2, 1, false), (3, 1, false), (4, 1, false), (5, 1, false), (6, 1, false)]), (223, [(0, 6, true), (6, 1, false)]), (224, [(0, 6, true), (6, 1, false)]), (235, [(0, 1, false), (1, 1, false)]), (236, [(0, 1, false), (1, 1, false)]),
    (237, [(0, 2, true), (2, 1, false)]), (238, [(0, 2, true), (2, 1, false)]), (242, [(0, 1, false), (1, 1, false), (2, 1, false)]), (243, [(0, 1, false), (1, 1, false), (2, 1, false)]), (245, [(0, 1, false), (1, 1, false), (2, 1, false), (3, 1, false), (4, 1, false), (5, 1, false)]), (246, [(0, 1, false), (1, 1, false), (2, 1, false), (3, 1, false), (4, 1, false), (5, 1, false)]), (253, [(0, 1, false), (1, 1, false), (2, 1, false), (3, 1, false), (4, 1, false)]), (254, [(0, 1, false), (1, 1, false), (2, 1, false), (3, 1, false), (4, 1, false)]),
    (256, [(0, 1, false), (1, 1, false), (2, 1, false)]), (257, [(0, 1, false), (1, 1, false), (2, 1, false)]), (259, [(0, 1, false), (1, 1, false)]), (260, [(0, 1, false), (1, 1, false)]), (310, [(0, 1, false), (1, 1, false)]), (311, [(0, 1, false), (1, 1, false)]), (315, [(0, 1, false), (1, 1, false), (2, 1, false)]), (316, [(0, 1, false), (1, 1, false), (2, 1, false)]),
    (318, [(0, 1, false), (1, 1, false), (2, 1, false), (3, 1, false), (4, 1, false)]), (319, [(0, 1, false), (1, 1, false), (2, 1, false), (3, 1, false), (4, 1, false)]), (349, [(0, 1, false), (1, 1, false)]), (350, [(0, 1, false), (1, 1, false)]), (357, [(0, 1, false), (1, 1, false), (2, 1, false), (3, 1, false)]), (358, [(0, 1, false), (1, 1, false), (2, 1, false), (3, 1, false)]), (367, [(0, 1, false), (1, 1, false), (2, 1, false), (3, 1, false), (4, 1, false), (5, 1, false), (6, 1, false), (7, 1, false), (8, 1, false), (9, 1, false), (10, 1, false)]), (368, [(0, 1, false), (1, 1, false), (2, 1, false), (3, 1, false), (4, 1, false), (5, 1, false), (6, 1, false), (7, 1, false), (8, 1, false), (9, 1, false), (10, 1, false)])]
  ty := [(1, 1, false), (2, 1, false), (3, 1, false), (4, 1, false), (5, 1, false), (6, 1, false), (7, 4, true), (8, 4, true),
    (9, 1, false), (10, 1, false), (11, 1, false), (12, 1, false), (13, 2, true), (14, 2, true), (15, 1, false), (16, 1, false),
    (17, 1, false), (18, 1, true), (19, 1, true), (20, 1, false), (21, 1, false), (22, 1, false), (23, 1, false), (24, 1, false),
    (25, 6, true), (26, 6, true), (27, 1, false), (28, 1, false), (30, 1, false), (31, 1, false), (32, 1, false), (33, 1, false),
    (34, 1, false), (35, 5, true), (36, 5, true), (37, 1, false), (38, 1, false), (39, 1, false), (40, 1, false), (41, 1, false),
    (42, 6, true), (43, 6, true), (44, 1, false), (45, 1, false), (46, 1, false), (48, 1, false), (49, 1, false), (50, 1, false),
    (51, 4, true), (52, 4, true), (53, 2, true), (54, 2, true), (55, 2, true), (56, 2, true), (57, 1, false), (58, 1, false),
    (59, 1, false), (60, 1, false), (61, 1, false), (62, 1, false), (63, 1, false), (65, 1, false), (67, 1, false), (68, 1, false),
    (69, 1, false), (70, 1, false), (71, 1, false), (72, 1, false), (73, 10, true), (74, 10, true), (76, 1, false), (77, 1, false),
    (78, 1, false), (79, 1, false), (80, 1, false), (81, 8, true), (82, 8, true), (84, 1, false), (85, 4, true), (86, 4, true),
    (87, 1, false), (88, 1, false), (89, 1, false), (90, 1, false), (91, 1, false), (92, 1, false), (93, 2, true), (94, 2, true),
    (95, 1, false), (96, 1, false), (97, 1, false), (98, 2, true), (99, 2, true), (100, 1, false), (102, 1, false), (103, 1, false),
    (104, 1, false), (105, 1, false), (106, 1, false), (108, 1, false), (109, 1, false), (110, 6, true), (111, 6, true), (112, 1, false),
    (113, 6, true), (114, 6, true), (115, 1, false), (117, 1, false), (119, 1, false), (121, 1, false), (123, 1, false), (125, 1, false),
    (126, 1, false), (127, 1, false), (128, 1, false), (129, 5, true), (130, 5, true), (131, 1, false), (133, 1, false), (134, 1, false),
    (135, 1, false), (137, 1, false), (138, 1, false), (139, 1, false), (140, 1, false), (141, 1, false), (142, 1, false), (143, 1, false),
    (144, 6, true), (145, 6, true), (146, 3, true), (147, 3, true), (148, 1, false), (149, 1, false), (151, 1, false), (152, 1, false),
    (153, 1, false), (154, 1, false), (155, 1, false), (156, 1, false), (157, 16, true), (158, 256, true), (159, 516, true), (160, 516, true),
    (161, 1, false), (162, 1, false), (163, 1, false), (164, 4, true), (165, 4, true), (166, 1, false), (167, 1, false), (168, 1, false),
    (169, 1, false), (170, 1, false), (171, 1, false), (172, 4, true), (173, 1, false), (174, 1, false), (175, 1, false), (176, 1, false),
    (177, 1, false), (178, 1, false), (179, 1, false), (180, 1, false), (182, 1, false), (183, 1, false), (184, 1, false), (185, 4, true),
    (186, 4, true), (187, 1, false), (189, 1, false), (190, 5, true), (191, 5, true), (192, 1, false), (193, 1, false), (194, 8, true),
    (196, 1, false), (197, 1, false), (198, 1, false), (199, 1, false), (200, 1, false), (201, 1, false), (202, 1, false), (203, 1, false),
    (204, 1, false), (205, 4, true), (206, 4, true), (207, 1, false), (208, 1, false), (209, 1, false), (210, 1, false), (211, 1, false),
    (212, 1, false), (213, 1, false), (215, 1, false), (216, 1, false), (217, 7, true), (218, 7, true), (219, 7, true), (220, 7, true),
    (221, 1, false), (222, 1, false), (223, 7, true), (224, 7, true), (225, 1, false), (226, 1, false), (227, 1, false), (228, 1, false),
    (230, 1, false), (232, 1, false), (233, 1, false), (234, 1, false), (235, 2, true), (236, 2, true), (237, 3, true), (238, 3, true),
    (239, 1, false), (240, 1, false), (241, 1, false), (242, 3, true), (243, 3, true), (244, 1, false), (245, 6, true), (246, 6, true),
    (248, 1, false), (249, 1, false), (250, 1, false), (251, 1, false), (252, 1, false), (253, 5, true), (254, 5, true), (255, 1, false),
    (256, 3, true), (257, 3, true), (258, 1, false), (259, 2, true), (260, 2, true), (261, 1, false), (263, 1, false), (264, 1, false),
    (265, 1, false), (266, 1, false), (267, 1, false), (268, 1, false), (270, 1, false), (272, 1, false), (273, 1, false), (274, 1, false),
    (275, 1, false), (276, 1, false), (277, 1, false), (278, 1, false), (279, 1, false), (280, 1, false), (281, 1, false), (282, 1, false),
    (283, 1, false), (284, 1, false), (285, 1, false), (286, 1, false), (287, 1, false), (288, 1, false), (289, 1, false), (290, 1, false),
    (291, 1, false), (292, 1, false), (293, 1, false), (294, 1, false), (295, 1, false), (296, 1, false), (298, 1, false), (299, 1, false),
    (300, 1, false), (302, 1, false), (303, 1, false), (304, 1, false), (305, 1, false), (306, 1, false), (307, 1, false), (308, 1, false),
    (309, 1, false), (310, 2, true), (311, 2, true), (312, 1, false), (313, 1, false), (314, 1, false), (315, 3, true), (316, 3, true),
    (317, 1, false), (318, 5, true), (319, 5, true), (321, 1, false), (322, 1, false), (323, 1, false), (324, 1, false), (325, 1, false),
    (326, 1, false), (327, 1, false), (328, 1, false), (329, 1, false), (331, 1, false), (332, 24, true), (333, 1, false), (334, 1, false),
    (335, 1, false), (337, 1, false), (338, 1, false), (339, 1, false), (340, 1, false), (341, 1, false), (342, 1, false), (343, 1, false),
    (344, 20, true), (345, 65, true), (346, 1, false), (347, 1, false), (348, 256, true), (349, 2, true), (350, 2, true), (351, 32, true),
    (352, 1, false), (354, 1, false), (355, 32, true), (356, 64, true), (357, 4, true), (358, 4, true), (362, 1, false), (363, 1, false),
    (364, 1, false), (365, 1, false), (366, 1, false), (367, 11, true), (368, 11, true)]
  sl := [(22, 9, 1, false), (23, 94, 2, true), (24, 114, 6, true), (33, 43, 6, true), (34, 56, 2, true), (39, 52, 4, true), (40, 3, 1, false), (41, 145, 6, true),
    (49, 54, 2, true), (69, 218, 7, true), (70, 220, 7, true), (71, 224, 7, true), (72, 74, 10, true), (77, 82, 8, true), (78, 254, 5, true), (79, 260, 2, true),
    (80, 4, 1, false), (97, 80, 1, false), (112, 165, 4, true), (128, 186, 4, true), (134, 311, 2, true), (135, 243, 3, true), (156, 155, 1, false), (234, 5, 1, false),
    (276, 257, 3, true)]
  ik := [(2, .i64), (3, .i64), (5, .u8), (6, .u8), (12, .u64), (21, .i32), (63, .i64), (154, .u32),
    (155, .u32), (333, .u64), (346, .u64), (362, .u8), (363, .u8), (365, .i32), (366, .i32)]
  lt := [9, 10, 11]
  xs := [186]
theorem idx_186 : IdX Tryz.prog 186 := fun v w => by
  have h3 := run_callFunc_extern (P := Tryz.prog) (f := 186) Tryz.func186 (by kernel_rfl) (by kernel_rfl) (by kernel_rfl) (e := Extern.AbiNoEscape.same) (by kernel_rfl) #[v] w
  rw [Lib.run_noEscape] at h3
  simpa [Result.andThen] using h3
theorem tt_ok : tt.Ok Tryz.prog := Tab.ok_of (by kernel_rfl) (by kernel_rfl) (by kernel_rfl) (by kernel_rfl) (by kernel_rfl) (fun x hx => by rw [List.mem_singleton.1 hx]; exact idx_186)
theorem mixed : Tryz.prog.follows .mixedOrders = true := by kernel_rfl
theorem z_2 : (Tryz.prog.info? 2).bind (·.zero) = some (.int .i64 0) := by kernel_rfl
theorem z_3 : (Tryz.prog.info? 3).bind (·.zero) = some (.int .i64 0) := by kernel_rfl
theorem z_4 : (Tryz.prog.info? 4).bind (·.zero) = some (.bool false) := by kernel_rfl
theorem z_5 : (Tryz.prog.info? 5).bind (·.zero) = some (.int .u8 0) := by kernel_rfl
theorem z_6 : (Tryz.prog.info? 6).bind (·.zero) = some (.int .u8 0) := by kernel_rfl
theorem z_7 : (Tryz.prog.info? 7).bind (·.zero) = some (.agg ⟨[.int .i64 0, .int .i64 0, .bool false, .int .u8 0]⟩) := by kernel_rfl
theorem z_8 : (Tryz.prog.info? 8).bind (·.zero) = some (.agg ⟨[.int .i64 0, .int .i64 0, .bool false, .int .u8 0]⟩) := by kernel_rfl
theorem z_9 : (Tryz.prog.info? 9).bind (·.zero) = some (.string ⟨#[]⟩) := by kernel_rfl
theorem z_10 : (Tryz.prog.info? 10).bind (·.zero) = some (.string ⟨#[]⟩) := by kernel_rfl
theorem z_11 : (Tryz.prog.info? 11).bind (·.zero) = some (.string ⟨#[]⟩) := by kernel_rfl
theorem z_12 : (Tryz.prog.info? 12).bind (·.zero) = some (.int .u64 0) := by kernel_rfl
theorem z_13 : (Tryz.prog.info? 13).bind (·.zero) = some (.agg ⟨[.string ⟨#[]⟩, .int .u64 0]⟩) := by kernel_rfl
theorem z_14 : (Tryz.prog.info? 14).bind (·.zero) = some (.agg ⟨[.string ⟨#[]⟩, .int .u64 0]⟩) := by kernel_rfl
theorem z_15 : (Tryz.prog.info? 15).bind (·.zero) = some (.pointer none) := by kernel_rfl
theorem z_16 : (Tryz.prog.info? 16).bind (·.zero) = some (.pointer none) := by kernel_rfl
theorem z_17 : (Tryz.prog.info? 17).bind (·.zero) = some (.pointer none) := by kernel_rfl
theorem z_18 : (Tryz.prog.info? 18).bind (·.zero) = some (.agg ⟨[.pointer none]⟩) := by kernel_rfl
theorem z_19 : (Tryz.prog.info? 19).bind (·.zero) = some (.agg ⟨[.pointer none]⟩) := by kernel_rfl
theorem z_20 : (Tryz.prog.info? 20).bind (·.zero) = some (.nilIface) := by kernel_rfl
theorem z_21 : (Tryz.prog.info? 21).bind (·.zero) = some (.int .i32 0) := by kernel_rfl
theorem z_22 : (Tryz.prog.info? 22).bind (·.zero) = some (.slice none 0 0) := by kernel_rfl
theorem z_23 : (Tryz.prog.info? 23).bind (·.zero) = some (.slice none 0 0) := by kernel_rfl
theorem z_24 : (Tryz.prog.info? 24).bind (·.zero) = some (.slice none 0 0) := by kernel_rfl
theorem z_25 : (Tryz.prog.info? 25).bind (·.zero) = some (.agg ⟨[.slice none 0 0, .slice none 0 0, .slice none 0 0, .slice none 0 0, .slice none 0 0, .int .i64 0]⟩) := by kernel_rfl
theorem z_26 : (Tryz.prog.info? 26).bind (·.zero) = some (.agg ⟨[.slice none 0 0, .slice none 0 0, .slice none 0 0, .slice none 0 0, .slice none 0 0, .int .i64 0]⟩) := by kernel_rfl
theorem z_27 : (Tryz.prog.info? 27).bind (·.zero) = some (.pointer none) := by kernel_rfl
theorem z_28 : (Tryz.prog.info? 28).bind (·.zero) = some (.pointer none) := by kernel_rfl
theorem z_32 : (Tryz.prog.info? 32).bind (·.zero) = some (.pointer none) := by kernel_rfl
theorem z_33 : (Tryz.prog.info? 33).bind (·.zero) = some (.slice none 0 0) := by kernel_rfl
theorem z_34 : (Tryz.prog.info? 34).bind (·.zero) = some (.slice none 0 0) := by kernel_rfl
theorem z_35 : (Tryz.prog.info? 35).bind (·.zero) = some (.agg ⟨[.pointer none, .slice none 0 0, .slice none 0 0, .slice none 0 0, .int .i64 0]⟩) := by kernel_rfl
theorem z_36 : (Tryz.prog.info? 36).bind (·.zero) = some (.agg ⟨[.pointer none, .slice none 0 0, .slice none 0 0, .slice none 0 0, .int .i64 0]⟩) := by kernel_rfl
theorem z_39 : (Tryz.prog.info? 39).bind (·.zero) = some (.slice none 0 0) := by kernel_rfl
theorem z_40 : (Tryz.prog.info? 40).bind (·.zero) = some (.slice none 0 0) := by kernel_rfl
theorem z_41 : (Tryz.prog.info? 41).bind (·.zero) = some (.slice none 0 0) := by kernel_rfl
theorem z_42 : (Tryz.prog.info? 42).bind (·.zero) = some (.agg ⟨[.string ⟨#[]⟩, .int .i64 0, .slice none 0 0, .slice none 0 0, .int .i64 0, .slice none 0 0]⟩) := by kernel_rfl
theorem z_43 : (Tryz.prog.info? 43).bind (·.zero) = some (.agg ⟨[.string ⟨#[]⟩, .int .i64 0, .slice none 0 0, .slice none 0 0, .int .i64 0, .slice none 0 0]⟩) := by kernel_rfl
theorem z_49 : (Tryz.prog.info? 49).bind (·.zero) = some (.slice none 0 0) := by kernel_rfl
theorem z_51 : (Tryz.prog.info? 51).bind (·.zero) = some (.agg ⟨[.string ⟨#[]⟩, .int .i64 0, .bool false, .int .i64 0]⟩) := by kernel_rfl
theorem z_52 : (Tryz.prog.info? 52).bind (·.zero) = some (.agg ⟨[.string ⟨#[]⟩, .int .i64 0, .bool false, .int .i64 0]⟩) := by kernel_rfl
theorem z_53 : (Tryz.prog.info? 53).bind (·.zero) = some (.agg ⟨[.string ⟨#[]⟩, .string ⟨#[]⟩]⟩) := by kernel_rfl
theorem z_54 : (Tryz.prog.info? 54).bind (·.zero) = some (.agg ⟨[.string ⟨#[]⟩, .string ⟨#[]⟩]⟩) := by kernel_rfl
theorem z_55 : (Tryz.prog.info? 55).bind (·.zero) = some (.agg ⟨[.string ⟨#[]⟩, .int .i64 0]⟩) := by kernel_rfl
theorem z_56 : (Tryz.prog.info? 56).bind (·.zero) = some (.agg ⟨[.string ⟨#[]⟩, .int .i64 0]⟩) := by kernel_rfl
theorem z_63 : (Tryz.prog.info? 63).bind (·.zero) = some (.int .i64 0) := by kernel_rfl
theorem z_69 : (Tryz.prog.info? 69).bind (·.zero) = some (.slice none 0 0) := by kernel_rfl
theorem z_70 : (Tryz.prog.info? 70).bind (·.zero) = some (.slice none 0 0) := by kernel_rfl
theorem z_71 : (Tryz.prog.info? 71).bind (·.zero) = some (.slice none 0 0) := by kernel_rfl
theorem z_72 : (Tryz.prog.info? 72).bind (·.zero) = some (.slice none 0 0) := by kernel_rfl
theorem z_73 : (Tryz.prog.info? 73).bind (·.zero) = some (.agg ⟨[.int .i64 0, .bool false, .slice none 0 0, .slice none 0 0, .slice none 0 0, .slice none 0 0, .slice none 0 0, .slice none 0 0, .int .i64 0, .slice none 0 0]⟩) := by kernel_rfl
theorem z_74 : (Tryz.prog.info? 74).bind (·.zero) = some (.agg ⟨[.int .i64 0, .bool false, .slice none 0 0, .slice none 0 0, .slice none 0 0, .slice none 0 0, .slice none 0 0, .slice none 0 0, .int .i64 0, .slice none 0 0]⟩) := by kernel_rfl
theorem z_77 : (Tryz.prog.info? 77).bind (·.zero) = some (.slice none 0 0) := by kernel_rfl
theorem z_78 : (Tryz.prog.info? 78).bind (·.zero) = some (.slice none 0 0) := by kernel_rfl
theorem z_79 : (Tryz.prog.info? 79).bind (·.zero) = some (.slice none 0 0) := by kernel_rfl
theorem z_80 : (Tryz.prog.info? 80).bind (·.zero) = some (.slice none 0 0) := by kernel_rfl
theorem z_81 : (Tryz.prog.info? 81).bind (·.zero) = some (.agg ⟨[.int .i64 0, .int .i64 0, .slice none 0 0, .slice none 0 0, .slice none 0 0, .slice none 0 0, .slice none 0 0, .int .i64 0]⟩) := by kernel_rfl
theorem z_82 : (Tryz.prog.info? 82).bind (·.zero) = some (.agg ⟨[.int .i64 0, .int .i64 0, .slice none 0 0, .slice none 0 0, .slice none 0 0, .slice none 0 0, .slice none 0 0, .int .i64 0]⟩) := by kernel_rfl
theorem z_85 : (Tryz.prog.info? 85).bind (·.zero) = some (.agg ⟨[.int .i64 0, .slice none 0 0, .int .i64 0, .bool false]⟩) := by kernel_rfl
theorem z_86 : (Tryz.prog.info? 86).bind (·.zero) = some (.agg ⟨[.int .i64 0, .slice none 0 0, .int .i64 0, .bool false]⟩) := by kernel_rfl
theorem z_89 : (Tryz.prog.info? 89).bind (·.zero) = some (.pointer none) := by kernel_rfl
theorem z_93 : (Tryz.prog.info? 93).bind (·.zero) = some (.agg ⟨[.string ⟨#[]⟩, .string ⟨#[]⟩]⟩) := by kernel_rfl
theorem z_94 : (Tryz.prog.info? 94).bind (·.zero) = some (.agg ⟨[.string ⟨#[]⟩, .string ⟨#[]⟩]⟩) := by kernel_rfl
theorem z_97 : (Tryz.prog.info? 97).bind (·.zero) = some (.slice none 0 0) := by kernel_rfl
theorem z_98 : (Tryz.prog.info? 98).bind (·.zero) = some (.agg ⟨[.slice none 0 0, .slice none 0 0]⟩) := by kernel_rfl
theorem z_99 : (Tryz.prog.info? 99).bind (·.zero) = some (.agg ⟨[.slice none 0 0, .slice none 0 0]⟩) := by kernel_rfl
theorem z_104 : (Tryz.prog.info? 104).bind (·.zero) = some (.pointer none) := by kernel_rfl
theorem z_109 : (Tryz.prog.info? 109).bind (·.zero) = some (.map none) := by kernel_rfl
theorem z_110 : (Tryz.prog.info? 110).bind (·.zero) = some (.agg ⟨[.pointer none, .slice none 0 0, .map none, .slice none 0 0, .slice none 0 0, .int .i64 0]⟩) := by kernel_rfl
theorem z_111 : (Tryz.prog.info? 111).bind (·.zero) = some (.agg ⟨[.pointer none, .slice none 0 0, .map none, .slice none 0 0, .slice none 0 0, .int .i64 0]⟩) := by kernel_rfl
theorem z_112 : (Tryz.prog.info? 112).bind (·.zero) = some (.slice none 0 0) := by kernel_rfl
theorem z_113 : (Tryz.prog.info? 113).bind (·.zero) = some (.agg ⟨[.string ⟨#[]⟩, .string ⟨#[]⟩, .slice none 0 0, .slice none 0 0, .string ⟨#[]⟩, .slice none 0 0]⟩) := by kernel_rfl
theorem z_114 : (Tryz.prog.info? 114).bind (·.zero) = some (.agg ⟨[.string ⟨#[]⟩, .string ⟨#[]⟩, .slice none 0 0, .slice none 0 0, .string ⟨#[]⟩, .slice none 0 0]⟩) := by kernel_rfl
theorem z_126 : (Tryz.prog.info? 126).bind (·.zero) = some (.pointer none) := by kernel_rfl
theorem z_128 : (Tryz.prog.info? 128).bind (·.zero) = some (.slice none 0 0) := by kernel_rfl
theorem z_129 : (Tryz.prog.info? 129).bind (·.zero) = some (.agg ⟨[.slice none 0 0, .int .i64 0, .int .i64 0, .int .i64 0, .int .i64 0]⟩) := by kernel_rfl
theorem z_130 : (Tryz.prog.info? 130).bind (·.zero) = some (.agg ⟨[.slice none 0 0, .int .i64 0, .int .i64 0, .int .i64 0, .int .i64 0]⟩) := by kernel_rfl
theorem z_134 : (Tryz.prog.info? 134).bind (·.zero) = some (.slice none 0 0) := by kernel_rfl
theorem z_135 : (Tryz.prog.info? 135).bind (·.zero) = some (.slice none 0 0) := by kernel_rfl
theorem z_144 : (Tryz.prog.info? 144).bind (·.zero) = some (.agg ⟨[.int .i64 0, .int .i64 0, .string ⟨#[]⟩, .string ⟨#[]⟩, .slice none 0 0, .slice none 0 0]⟩) := by kernel_rfl
theorem z_145 : (Tryz.prog.info? 145).bind (·.zero) = some (.agg ⟨[.int .i64 0, .int .i64 0, .string ⟨#[]⟩, .string ⟨#[]⟩, .slice none 0 0, .slice none 0 0]⟩) := by kernel_rfl
theorem z_146 : (Tryz.prog.info? 146).bind (·.zero) = some (.agg ⟨[.pointer none, .slice none 0 0, .slice none 0 0]⟩) := by kernel_rfl
theorem z_147 : (Tryz.prog.info? 147).bind (·.zero) = some (.agg ⟨[.pointer none, .slice none 0 0, .slice none 0 0]⟩) := by kernel_rfl
theorem z_151 : (Tryz.prog.info? 151).bind (·.zero) = some (.nilIface) := by kernel_rfl
theorem z_154 : (Tryz.prog.info? 154).bind (·.zero) = some (.int .u32 0) := by kernel_rfl
theorem z_155 : (Tryz.prog.info? 155).bind (·.zero) = some (.int .u32 0) := by kernel_rfl
theorem z_156 : (Tryz.prog.info? 156).bind (·.zero) = some (.slice none 0 0) := by kernel_rfl
theorem z_157 : (Tryz.prog.info? 157).bind (·.zero) = some (.agg ⟨[.int .i64 0, .int .i64 0, .int .i64 0, .int .i64 0, .int .i64 0, .int .i64 0, .int .i64 0, .int .i64 0, .int .i64 0, .int .i64 0, .int .i64 0, .int .i64 0, .int .i64 0, .int .i64 0, .int .i64 0, .int .i64 0]⟩) := by kernel_rfl
theorem z_164 : (Tryz.prog.info? 164).bind (·.zero) = some (.agg ⟨[.string ⟨#[]⟩, .int .i64 0, .bool false, .string ⟨#[]⟩]⟩) := by kernel_rfl
theorem z_165 : (Tryz.prog.info? 165).bind (·.zero) = some (.agg ⟨[.string ⟨#[]⟩, .int .i64 0, .bool false, .string ⟨#[]⟩]⟩) := by kernel_rfl
theorem z_170 : (Tryz.prog.info? 170).bind (·.zero) = some (.pointer none) := by kernel_rfl
theorem z_172 : (Tryz.prog.info? 172).bind (·.zero) = some (.agg ⟨[.nilFunc, .nilFunc, .nilFunc, .nilFunc]⟩) := by kernel_rfl
theorem z_185 : (Tryz.prog.info? 185).bind (·.zero) = some (.agg ⟨[.int .i64 0, .string ⟨#[]⟩, .int .i64 0, .int .i64 0]⟩) := by kernel_rfl
theorem z_186 : (Tryz.prog.info? 186).bind (·.zero) = some (.agg ⟨[.int .i64 0, .string ⟨#[]⟩, .int .i64 0, .int .i64 0]⟩) := by kernel_rfl
theorem z_190 : (Tryz.prog.info? 190).bind (·.zero) = some (.agg ⟨[.pointer none, .slice none 0 0, .slice none 0 0, .int .i64 0, .slice none 0 0]⟩) := by kernel_rfl
theorem z_191 : (Tryz.prog.info? 191).bind (·.zero) = some (.agg ⟨[.pointer none, .slice none 0 0, .slice none 0 0, .int .i64 0, .slice none 0 0]⟩) := by kernel_rfl
theorem z_194 : (Tryz.prog.info? 194).bind (·.zero) = some (.agg ⟨[.int .i64 0, .slice none 0 0, .int .i64 0, .bool false, .int .i64 0, .slice none 0 0, .int .i64 0, .bool false]⟩) := by kernel_rfl
theorem z_198 : (Tryz.prog.info? 198).bind (·.zero) = some (.pointer none) := by kernel_rfl
theorem z_204 : (Tryz.prog.info? 204).bind (·.zero) = some (.pointer none) := by kernel_rfl
theorem z_205 : (Tryz.prog.info? 205).bind (·.zero) = some (.agg ⟨[.string ⟨#[]⟩, .map none, .pointer none, .slice none 0 0]⟩) := by kernel_rfl
theorem z_206 : (Tryz.prog.info? 206).bind (·.zero) = some (.agg ⟨[.string ⟨#[]⟩, .map none, .pointer none, .slice none 0 0]⟩) := by kernel_rfl
theorem z_217 : (Tryz.prog.info? 217).bind (·.zero) = some (.agg ⟨[.int .i64 0, .int .i64 0, .string ⟨#[]⟩, .string ⟨#[]⟩, .slice none 0 0, .slice none 0 0, .string ⟨#[]⟩]⟩) := by kernel_rfl
theorem z_218 : (Tryz.prog.info? 218).bind (·.zero) = some (.agg ⟨[.int .i64 0, .int .i64 0, .string ⟨#[]⟩, .string ⟨#[]⟩, .slice none 0 0, .slice none 0 0, .string ⟨#[]⟩]⟩) := by kernel_rfl
theorem z_219 : (Tryz.prog.info? 219).bind (·.zero) = some (.agg ⟨[.int .i64 0, .string ⟨#[]⟩, .bool false, .string ⟨#[]⟩, .slice none 0 0, .slice none 0 0, .slice none 0 0]⟩) := by kernel_rfl
theorem z_220 : (Tryz.prog.info? 220).bind (·.zero) = some (.agg ⟨[.int .i64 0, .string ⟨#[]⟩, .bool false, .string ⟨#[]⟩, .slice none 0 0, .slice none 0 0, .slice none 0 0]⟩) := by kernel_rfl
theorem z_223 : (Tryz.prog.info? 223).bind (·.zero) = some (.agg ⟨[.int .i64 0, .int .i64 0, .string ⟨#[]⟩, .string ⟨#[]⟩, .slice none 0 0, .slice none 0 0, .bool false]⟩) := by kernel_rfl
theorem z_224 : (Tryz.prog.info? 224).bind (·.zero) = some (.agg ⟨[.int .i64 0, .int .i64 0, .string ⟨#[]⟩, .string ⟨#[]⟩, .slice none 0 0, .slice none 0 0, .bool false]⟩) := by kernel_rfl
theorem z_228 : (Tryz.prog.info? 228).bind (·.zero) = some (.pointer none) := by kernel_rfl
theorem z_230 : (Tryz.prog.info? 230).bind (·.zero) = some (.nilIface) := by kernel_rfl
theorem z_233 : (Tryz.prog.info? 233).bind (·.zero) = some (.pointer none) := by kernel_rfl
theorem z_234 : (Tryz.prog.info? 234).bind (·.zero) = some (.slice none 0 0) := by kernel_rfl
theorem z_235 : (Tryz.prog.info? 235).bind (·.zero) = some (.agg ⟨[.pointer none, .slice none 0 0]⟩) := by kernel_rfl
theorem z_236 : (Tryz.prog.info? 236).bind (·.zero) = some (.agg ⟨[.pointer none, .slice none 0 0]⟩) := by kernel_rfl
theorem z_237 : (Tryz.prog.info? 237).bind (·.zero) = some (.agg ⟨[.pointer none, .slice none 0 0, .string ⟨#[]⟩]⟩) := by kernel_rfl
theorem z_238 : (Tryz.prog.info? 238).bind (·.zero) = some (.agg ⟨[.pointer none, .slice none 0 0, .string ⟨#[]⟩]⟩) := by kernel_rfl
theorem z_242 : (Tryz.prog.info? 242).bind (·.zero) = some (.agg ⟨[.string ⟨#[]⟩, .string ⟨#[]⟩, .int .i64 0]⟩) := by kernel_rfl
theorem z_243 : (Tryz.prog.info? 243).bind (·.zero) = some (.agg ⟨[.string ⟨#[]⟩, .string ⟨#[]⟩, .int .i64 0]⟩) := by kernel_rfl
theorem z_244 : (Tryz.prog.info? 244).bind (·.zero) = some (.pointer none) := by kernel_rfl
theorem z_245 : (Tryz.prog.info? 245).bind (·.zero) = some (.agg ⟨[.pointer none, .slice none 0 0, .slice none 0 0, .slice none 0 0, .int .i64 0, .bool false]⟩) := by kernel_rfl
theorem z_246 : (Tryz.prog.info? 246).bind (·.zero) = some (.agg ⟨[.pointer none, .slice none 0 0, .slice none 0 0, .slice none 0 0, .int .i64 0, .bool false]⟩) := by kernel_rfl
theorem z_253 : (Tryz.prog.info? 253).bind (·.zero) = some (.agg ⟨[.int .i64 0, .int .i64 0, .string ⟨#[]⟩, .slice none 0 0, .slice none 0 0]⟩) := by kernel_rfl
theorem z_254 : (Tryz.prog.info? 254).bind (·.zero) = some (.agg ⟨[.int .i64 0, .int .i64 0, .string ⟨#[]⟩, .slice none 0 0, .slice none 0 0]⟩) := by kernel_rfl
theorem z_256 : (Tryz.prog.info? 256).bind (·.zero) = some (.agg ⟨[.int .i64 0, .int .i64 0, .bool false]⟩) := by kernel_rfl
theorem z_257 : (Tryz.prog.info? 257).bind (·.zero) = some (.agg ⟨[.int .i64 0, .int .i64 0, .bool false]⟩) := by kernel_rfl
theorem z_259 : (Tryz.prog.info? 259).bind (·.zero) = some (.agg ⟨[.string ⟨#[]⟩, .slice none 0 0]⟩) := by kernel_rfl
theorem z_260 : (Tryz.prog.info? 260).bind (·.zero) = some (.agg ⟨[.string ⟨#[]⟩, .slice none 0 0]⟩) := by kernel_rfl
theorem z_276 : (Tryz.prog.info? 276).bind (·.zero) = some (.slice none 0 0) := by kernel_rfl
theorem z_278 : (Tryz.prog.info? 278).bind (·.zero) = some (.pointer none) := by kernel_rfl
theorem z_310 : (Tryz.prog.info? 310).bind (·.zero) = some (.agg ⟨[.string ⟨#[]⟩, .int .i64 0]⟩) := by kernel_rfl
theorem z_311 : (Tryz.prog.info? 311).bind (·.zero) = some (.agg ⟨[.string ⟨#[]⟩, .int .i64 0]⟩) := by kernel_rfl
theorem z_314 : (Tryz.prog.info? 314).bind (·.zero) = some (.pointer none) := by kernel_rfl
theorem z_315 : (Tryz.prog.info? 315).bind (·.zero) = some (.agg ⟨[.string ⟨#[]⟩, .int .i64 0, .slice none 0 0]⟩) := by kernel_rfl
theorem z_316 : (Tryz.prog.info? 316).bind (·.zero) = some (.agg ⟨[.string ⟨#[]⟩, .int .i64 0, .slice none 0 0]⟩) := by kernel_rfl
theorem z_318 : (Tryz.prog.info? 318).bind (·.zero) = some (.agg ⟨[.int .i64 0, .int .i64 0, .bool false, .bool false, .bool false]⟩) := by kernel_rfl
theorem z_319 : (Tryz.prog.info? 319).bind (·.zero) = some (.agg ⟨[.int .i64 0, .int .i64 0, .bool false, .bool false, .bool false]⟩) := by kernel_rfl
theorem z_332 : (Tryz.prog.info? 332).bind (·.zero) = some (.agg ⟨[.int .u8 0, .int .u8 0, .int .u8 0, .int .u8 0, .int .u8 0, .int .u8 0, .int .u8 0, .int .u8 0, .int .u8 0, .int .u8 0, .int .u8 0, .int .u8 0, .int .u8 0, .int .u8 0, .int .u8 0, .int .u8 0, .int .u8 0, .int .u8 0, .int .u8 0, .int .u8 0, .int .u8 0, .int .u8 0, .int .u8 0, .int .u8 0]⟩) := by kernel_rfl
theorem z_333 : (Tryz.prog.info? 333).bind (·.zero) = some (.int .u64 0) := by kernel_rfl
theorem z_344 : (Tryz.prog.info? 344).bind (·.zero) = some (.agg ⟨[.int .u64 0, .int .u64 0, .int .u64 0, .int .u64 0, .int .u64 0, .int .u64 0, .int .u64 0, .int .u64 0, .int .u64 0, .int .u64 0, .int .u64 0, .int .u64 0, .int .u64 0, .int .u64 0, .int .u64 0, .int .u64 0, .int .u64 0, .int .u64 0, .int .u64 0, .int .u64 0]⟩) := by kernel_rfl
theorem z_346 : (Tryz.prog.info? 346).bind (·.zero) = some (.int .u64 0) := by kernel_rfl
theorem z_349 : (Tryz.prog.info? 349).bind (·.zero) = some (.agg ⟨[.int .u8 0, .int .u8 0]⟩) := by kernel_rfl
theorem z_350 : (Tryz.prog.info? 350).bind (·.zero) = some (.agg ⟨[.int .u8 0, .int .u8 0]⟩) := by kernel_rfl
theorem z_351 : (Tryz.prog.info? 351).bind (·.zero) = some (.agg ⟨[.int .u8 0, .int .u8 0, .int .u8 0, .int .u8 0, .int .u8 0, .int .u8 0, .int .u8 0, .int .u8 0, .int .u8 0, .int .u8 0, .int .u8 0, .int .u8 0, .int .u8 0, .int .u8 0, .int .u8 0, .int .u8 0, .int .u8 0, .int .u8 0, .int .u8 0, .int .u8 0, .int .u8 0, .int .u8 0, .int .u8 0, .int .u8 0, .int .u8 0, .int .u8 0, .int .u8 0, .int .u8 0, .int .u8 0, .int .u8 0, .int .u8 0, .int .u8 0]⟩) := by kernel_rfl
theorem z_355 : (Tryz.prog.info? 355).bind (·.zero) = some (.agg ⟨[.int .u8 0, .int .u8 0, .int .u8 0, .int .u8 0, .int .u8 0, .int .u8 0, .int .u8 0, .int .u8 0, .int .u8 0, .int .u8 0, .int .u8 0, .int .u8 0, .int .u8 0, .int .u8 0, .int .u8 0, .int .u8 0, .int .u8 0, .int .u8 0, .int .u8 0, .int .u8 0, .int .u8 0, .int .u8 0, .int .u8 0, .int .u8 0, .int .u8 0, .int .u8 0, .int .u8 0, .int .u8 0, .int .u8 0, .int .u8 0, .int .u8 0, .int .u8 0]⟩) := by kernel_rfl
theorem z_357 : (Tryz.prog.info? 357).bind (·.zero) = some (.agg ⟨[.pointer none, .pointer none, .pointer none, .string ⟨#[]⟩]⟩) := by kernel_rfl
theorem z_358 : (Tryz.prog.info? 358).bind (·.zero) = some (.agg ⟨[.pointer none, .pointer none, .pointer none, .string ⟨#[]⟩]⟩) := by kernel_rfl
theorem z_362 : (Tryz.prog.info? 362).bind (·.zero) = some (.int .u8 0) := by kernel_rfl
theorem z_363 : (Tryz.prog.info? 363).bind (·.zero) = some (.int .u8 0) := by kernel_rfl
theorem z_365 : (Tryz.prog.info? 365).bind (·.zero) = some (.int .i32 0) := by kernel_rfl
theorem z_366 : (Tryz.prog.info? 366).bind (·.zero) = some (.int .i32 0) := by kernel_rfl
theorem z_367 : (Tryz.prog.info? 367).bind (·.zero) = some (.agg ⟨[.int .u64 0, .int .u64 0, .int .u32 0, .int .u8 0, .int .u8 0, .int .u8 0, .int .u8 0, .nilFunc, .pointer none, .int .i32 0, .int .i32 0]⟩) := by kernel_rfl
theorem z_368 : (Tryz.prog.info? 368).bind (·.zero) = some (.agg ⟨[.int .u64 0, .int .u64 0, .int .u32 0, .int .u8 0, .int .u8 0, .int .u8 0, .int .u8 0, .nilFunc, .pointer none, .int .i32 0, .int .i32 0]⟩) := by kernel_rfl
theorem uk_2 : Tryz.prog.underlying 2 = some (.int .i64) := by kernel_rfl
theorem us_2 : (Tryz.prog.underlying 2).isSome = true := by kernel_rfl
theorem uk_3 : Tryz.prog.underlying 3 = some (.int .i64) := by kernel_rfl
theorem us_3 : (Tryz.prog.underlying 3).isSome = true := by kernel_rfl
theorem ub_4 : Tryz.prog.underlying 4 = some .bool := by kernel_rfl
theorem uk_5 : Tryz.prog.underlying 5 = some (.int .u8) := by kernel_rfl
theorem us_5 : (Tryz.prog.underlying 5).isSome = true := by kernel_rfl
theorem uk_6 : Tryz.prog.underlying 6 = some (.int .u8) := by kernel_rfl
theorem us_6 : (Tryz.prog.underlying 6).isSome = true := by kernel_rfl
theorem uk_9 : Tryz.prog.underlying 9 = some .string := by kernel_rfl
theorem us_9 : (Tryz.prog.underlying 9).isSome = true := by kernel_rfl
theorem uk_10 : Tryz.prog.underlying 10 = some .string := by kernel_rfl
theorem us_10 : (Tryz.prog.underlying 10).isSome = true := by kernel_rfl
theorem uk_11 : Tryz.prog.underlying 11 = some .string := by kernel_rfl
theorem us_11 : (Tryz.prog.underlying 11).isSome = true := by kernel_rfl
theorem uk_12 : Tryz.prog.underlying 12 = some (.int .u64) := by kernel_rfl
theorem us_12 : (Tryz.prog.underlying 12).isSome = true := by kernel_rfl
theorem up_15 : Tryz.prog.underlying 15 = some (.pointer 358) := by kernel_rfl
theorem up_16 : Tryz.prog.underlying 16 = some (.pointer 361) := by kernel_rfl
theorem up_17 : Tryz.prog.underlying 17 = some (.pointer 368) := by kernel_rfl
theorem uk_21 : Tryz.prog.underlying 21 = some (.int .i32) := by kernel_rfl
theorem us_21 : (Tryz.prog.underlying 21).isSome = true := by kernel_rfl
theorem us_22 : (Tryz.prog.underlying 22).isSome = true := by kernel_rfl
theorem ul_22 : Tryz.prog.underlying 22 = some (.slice 9) := by kernel_rfl
theorem us_23 : (Tryz.prog.underlying 23).isSome = true := by kernel_rfl
theorem ul_23 : Tryz.prog.underlying 23 = some (.slice 94) := by kernel_rfl
theorem us_24 : (Tryz.prog.underlying 24).isSome = true := by kernel_rfl
theorem ul_24 : Tryz.prog.underlying 24 = some (.slice 114) := by kernel_rfl
theorem up_27 : Tryz.prog.underlying 27 = some (.pointer 111) := by kernel_rfl
theorem up_28 : Tryz.prog.underlying 28 = some (.pointer 36) := by kernel_rfl
theorem up_32 : Tryz.prog.underlying 32 = some (.pointer 99) := by kernel_rfl
theorem us_33 : (Tryz.prog.underlying 33).isSome = true := by kernel_rfl
theorem ul_33 : Tryz.prog.underlying 33 = some (.slice 43) := by kernel_rfl
theorem us_34 : (Tryz.prog.underlying 34).isSome = true := by kernel_rfl
theorem ul_34 : Tryz.prog.underlying 34 = some (.slice 56) := by kernel_rfl
theorem us_39 : (Tryz.prog.underlying 39).isSome = true := by kernel_rfl
theorem ul_39 : Tryz.prog.underlying 39 = some (.slice 52) := by kernel_rfl
theorem us_40 : (Tryz.prog.underlying 40).isSome = true := by kernel_rfl
theorem ul_40 : Tryz.prog.underlying 40 = some (.slice 3) := by kernel_rfl
theorem us_41 : (Tryz.prog.underlying 41).isSome = true := by kernel_rfl
theorem ul_41 : Tryz.prog.underlying 41 = some (.slice 145) := by kernel_rfl
theorem us_49 : (Tryz.prog.underlying 49).isSome = true := by kernel_rfl
theorem ul_49 : Tryz.prog.underlying 49 = some (.slice 54) := by kernel_rfl
theorem uk_63 : Tryz.prog.underlying 63 = some (.int .i64) := by kernel_rfl
theorem us_63 : (Tryz.prog.underlying 63).isSome = true := by kernel_rfl
theorem us_69 : (Tryz.prog.underlying 69).isSome = true := by kernel_rfl
theorem ul_69 : Tryz.prog.underlying 69 = some (.slice 218) := by kernel_rfl
theorem us_70 : (Tryz.prog.underlying 70).isSome = true := by kernel_rfl
theorem ul_70 : Tryz.prog.underlying 70 = some (.slice 220) := by kernel_rfl
theorem us_71 : (Tryz.prog.underlying 71).isSome = true := by kernel_rfl
theorem ul_71 : Tryz.prog.underlying 71 = some (.slice 224) := by kernel_rfl
theorem us_72 : (Tryz.prog.underlying 72).isSome = true := by kernel_rfl
theorem ul_72 : Tryz.prog.underlying 72 = some (.slice 74) := by kernel_rfl
theorem us_77 : (Tryz.prog.underlying 77).isSome = true := by kernel_rfl
theorem ul_77 : Tryz.prog.underlying 77 = some (.slice 82) := by kernel_rfl
theorem us_78 : (Tryz.prog.underlying 78).isSome = true := by kernel_rfl
theorem ul_78 : Tryz.prog.underlying 78 = some (.slice 254) := by kernel_rfl
theorem us_79 : (Tryz.prog.underlying 79).isSome = true := by kernel_rfl
theorem ul_79 : Tryz.prog.underlying 79 = some (.slice 260) := by kernel_rfl
theorem us_80 : (Tryz.prog.underlying 80).isSome = true := by kernel_rfl
theorem ul_80 : Tryz.prog.underlying 80 = some (.slice 4) := by kernel_rfl
theorem up_89 : Tryz.prog.underlying 89 = some (.pointer 147) := by kernel_rfl
theorem us_97 : (Tryz.prog.underlying 97).isSome = true := by kernel_rfl
theorem ul_97 : Tryz.prog.underlying 97 = some (.slice 80) := by kernel_rfl
theorem up_104 : Tryz.prog.underlying 104 = some (.pointer 160) := by kernel_rfl
theorem um_109 : Tryz.prog.underlying 109 = some (.map 9 3) := by kernel_rfl
theorem us_112 : (Tryz.prog.underlying 112).isSome = true := by kernel_rfl
theorem ul_112 : Tryz.prog.underlying 112 = some (.slice 165) := by kernel_rfl
theorem up_126 : Tryz.prog.underlying 126 = some (.pointer 130) := by kernel_rfl
theorem us_128 : (Tryz.prog.underlying 128).isSome = true := by kernel_rfl
theorem ul_128 : Tryz.prog.underlying 128 = some (.slice 186) := by kernel_rfl
theorem us_134 : (Tryz.prog.underlying 134).isSome = true := by kernel_rfl
theorem ul_134 : Tryz.prog.underlying 134 = some (.slice 311) := by kernel_rfl
theorem us_135 : (Tryz.prog.underlying 135).isSome = true := by kernel_rfl
theorem ul_135 : Tryz.prog.underlying 135 = some (.slice 243) := by kernel_rfl
theorem uk_154 : Tryz.prog.underlying 154 = some (.int .u32) := by kernel_rfl
theorem us_154 : (Tryz.prog.underlying 154).isSome = true := by kernel_rfl
theorem uk_155 : Tryz.prog.underlying 155 = some (.int .u32) := by kernel_rfl
theorem us_155 : (Tryz.prog.underlying 155).isSome = true := by kernel_rfl
theorem us_156 : (Tryz.prog.underlying 156).isSome = true := by kernel_rfl
theorem ul_156 : Tryz.prog.underlying 156 = some (.slice 155) := by kernel_rfl
theorem ua_157 : Tryz.prog.underlying 157 = some (.array 16 3) := by kernel_rfl
theorem ua_158 : Tryz.prog.underlying 158 = some (.array 16 157) := by kernel_rfl
theorem z_159 : (Tryz.prog.info? 159).bind (·.zero) = some (.agg ⟨[.slice none 0 0, .map none, .slice none 0 0, .slice none 0 0] ++ (arCells .i64 256 [] ++ (arCells .i64 256 [] ++ []))⟩) := by kernel_rfl
theorem z_160 : (Tryz.prog.info? 160).bind (·.zero) = some (.agg ⟨[.slice none 0 0, .map none, .slice none 0 0, .slice none 0 0] ++ (arCells .i64 256 [] ++ (arCells .i64 256 [] ++ []))⟩) := by kernel_rfl
theorem up_170 : Tryz.prog.underlying 170 = some (.pointer 43) := by kernel_rfl
theorem ua_172 : Tryz.prog.underlying 172 = some (.array 4 167) := by kernel_rfl
theorem ua_194 : Tryz.prog.underlying 194 = some (.array 2 86) := by kernel_rfl
theorem up_198 : Tryz.prog.underlying 198 = some (.pointer 86) := by kernel_rfl
theorem up_204 : Tryz.prog.underlying 204 = some (.pointer 206) := by kernel_rfl
theorem up_228 : Tryz.prog.underlying 228 = some (.pointer 238) := by kernel_rfl
theorem up_233 : Tryz.prog.underlying 233 = some (.pointer 236) := by kernel_rfl
theorem us_234 : (Tryz.prog.underlying 234).isSome = true := by kernel_rfl
theorem ul_234 : Tryz.prog.underlying 234 = some (.slice 5) := by kernel_rfl
theorem up_244 : Tryz.prog.underlying 244 = some (.pointer 246) := by kernel_rfl
theorem us_276 : (Tryz.prog.underlying 276).isSome = true := by kernel_rfl
theorem ul_276 : Tryz.prog.underlying 276 = some (.slice 257) := by kernel_rfl
theorem up_278 : Tryz.prog.underlying 278 = some (.pointer 5) := by kernel_rfl
theorem up_314 : Tryz.prog.underlying 314 = some (.pointer 316) := by kernel_rfl
theorem ua_332 : Tryz.prog.underlying 332 = some (.array 24 5) := by kernel_rfl
theorem uk_333 : Tryz.prog.underlying 333 = some (.int .u64) := by kernel_rfl
theorem us_333 : (Tryz.prog.underlying 333).isSome = true := by kernel_rfl
theorem ua_344 : Tryz.prog.underlying 344 = some (.array 20 333) := by kernel_rfl
theorem ua_345 : Tryz.prog.underlying 345 = some (.array 65 5) := by kernel_rfl
theorem uk_346 : Tryz.prog.underlying 346 = some (.int .u64) := by kernel_rfl
theorem us_346 : (Tryz.prog.underlying 346).isSome = true := by kernel_rfl
theorem ua_348 : Tryz.prog.underlying 348 = some (.array 256 5) := by kernel_rfl
theorem ua_351 : Tryz.prog.underlying 351 = some (.array 16 350) := by kernel_rfl
theorem ua_355 : Tryz.prog.underlying 355 = some (.array 32 5) := by kernel_rfl
theorem ua_356 : Tryz.prog.underlying 356 = some (.array 64 5) := by kernel_rfl
theorem ua_359 : Tryz.prog.underlying 359 = some (.array 0 16) := by kernel_rfl
theorem uk_362 : Tryz.prog.underlying 362 = some (.int .u8) := by kernel_rfl
theorem us_362 : (Tryz.prog.underlying 362).isSome = true := by kernel_rfl
theorem uk_363 : Tryz.prog.underlying 363 = some (.int .u8) := by kernel_rfl
theorem us_363 : (Tryz.prog.underlying 363).isSome = true := by kernel_rfl
theorem uk_365 : Tryz.prog.underlying 365 = some (.int .i32) := by kernel_rfl
theorem us_365 : (Tryz.prog.underlying 365).isSome = true := by kernel_rfl
theorem uk_366 : Tryz.prog.underlying 366 = some (.int .i32) := by kernel_rfl
theorem us_366 : (Tryz.prog.underlying 366).isSome = true := by kernel_rfl
end Go.Proofs.YtknhbphhdfknaaaGreatDoor
