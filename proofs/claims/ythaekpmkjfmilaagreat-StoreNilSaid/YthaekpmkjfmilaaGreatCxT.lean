/- The tables of this seat's types (sizes, fields' places, elements), and that they are the program's. Written by tab.py. -/
import Derived.Test.YthaekpmkjfmilaaGreatProg
import Derived.Test.YthaekpmkjfmilaaGreatCxC
set_option maxRecDepth 100000
namespace Go.Proofs.YthaekpmkjfmilaaGreat
def tt : Tab where
  st := [(7, [(0, 1, false), (1, 1, false), (2, 1, false), (3, 1, false)]), (8, [(0, 1, false), (1, 1, false), (2, 1, false), (3, 1, false)]), (13, [(0, 1, false), (1, 1, false)]), (14, [(0, 1, false), (1, 1, false)]), (18, [(0, 1, false)]), (19, [(0, 1, false)]), (25, [(0, 1, false), (1, 1, false), (2, 1, false), (3, 1, false), (4, 1, false), (5, 1, false)]), (26, [(0, 1, false), (1, 1, false), (2, 1, false), (3, 1, false), (4, 1, false), (5, 1, false)]),
    (55, [(0, 1, false), (1, 1, false)]), (56, [(0, 1, false), (1, 1, false)]), (59, [(0, 1, false), (1, 1, false), (2, 1, false)]), (60, [(0, 1, false), (1, 1, false), (2, 1, false)]), (75, [(0, 1, false), (1, 1, false), (2, 1, false), (3, 1, false), (4, 1, false), (5, 1, false)]), (76, [(0, 1, false), (1, 1, false), (2, 1, false), (3, 1, false), (4, 1, false), (5, 1, false)]), (80, [(0, 1, false), (1, 1, false), (2, 1, false), (3, 1, false), (4, 1, false)]), (81, [(0, 1, false), (1, 1, false), (2, 1, false), (3, 1, false), (4, 1, false)]),
    (94, [(0, 1, false), (1, 1, false), (2, 1, false)]), (95, [(0, 1, false), (1, 1, false), (2, 1, false)]), (97, [(0, 6, true), (6, 1, false)]), (98, [(0, 6, true), (6, 1, false)]), (100, [(0, 1, false), (1, 1, false), (2, 1, false)]), (101, [(0, 1, false), (1, 1, false), (2, 1, false)]), (104, [(0, 1, false), (1, 1, false), (2, 1, false), (3, 1, false), (4, 1, false), (5, 1, false)]), (105, [(0, 1, false), (1, 1, false), (2, 1, false), (3, 1, false), (4, 1, false), (5, 1, false)]),
    (106, [(0, 1, false), (1, 1, false), (2, 1, false), (3, 1, false)]), (107, [(0, 1, false), (1, 1, false), (2, 1, false), (3, 1, false)]), (127, [(0, 1, false), (1, 1, false), (2, 1, false)]), (128, [(0, 1, false), (1, 1, false), (2, 1, false)]), (134, [(0, 1, false), (1, 3, true)]), (135, [(0, 1, false), (1, 3, true)]), (139, [(0, 1, false), (1, 1, false)]), (140, [(0, 1, false), (1, 1, false)]),
    (145, [(0, 1, false), (1, 1, false)]), (146, [(0, 1, false), (1, 1, false)]), (160, [(0, 1, false), (1, 1, false), (2, 1, false), (3, 1, false), (4, 1, false)]), (161, [(0, 1, false), (1, 1, false), (2, 1, false), (3, 1, false), (4, 1, false)]), (167, [(0, 1, false), (1, 1, false), (2, 1, false), (3, 1, false), (4, 1, false), (5, 1, false)]), (168, [(0, 1, false), (1, 1, false), (2, 1, false), (3, 1, false), (4, 1, false), (5, 1, false)]), (170, [(0, 1, false), (1, 1, false), (2, 1, false), (3, 1, false), (4, 1, false), (5, 1, false)]), (171, [(0, 1, false), (1, 1, false), (2, 1, false), (3, 1, false), (4, 1, false), (5, 1, false)]),
    (190, [(0, 1, false), (1, 1, false), (2, 1, false), (3, 1, false), (4, 256, true), (260, 256, true)]), (191, [(0, 1, false), (1, 1, false), (2, 1, false), (3, 1, false), (4, 256, true), (260, 256, true)]), (203, [(0, 1, false), (1, 1, false), (2, 1, false), (3, 1, false)]), (204, [(0, 1, false), (1, 1, false), (2, 1, false), (3, 1, false)]), (209, [(0, 1, false), (1, 1, false)]), (210, [(0, 1, false), (1, 1, false)]), (217, [(0, 1, false), (1, 1, false), (2, 1, false), (3, 1, false)]), (218, [(0, 1, false), (1, 1, false), (2, 1, false), (3, 1, false)]),
    (248, [(0, 1, false), (1, 1, false), (2, 1, false), (3, 1, false)]), (249, [(0, 1, false), (1, 1, false), (2, 1, false), (3, 1, false)]), (272, [(0, 1, false), (1, 1, false), (2, 1, false), (3, 1, false), (4, 1, false), (5, 1, false), (6, 1, false), (7, 1, false), (8, 1, false), (9, 1, false)]), (273, [(0, 1, false), (1, 1, false), (2, 1, false), (3, 1, false), (4, 1, false), (5, 1, false), (6, 1, false), (7, 1, false), (8, 1, false), (9, 1, false)]), (275, [(0, 1, false), (1, 1, false), (2, 1, false)]), (276, [(0, 1, false), (1, 1, false), (2, 1, false)]), (279, [(0, 6, true), (6, 1, false)]), (280, [(0, 6, true), (6, 1, false)]),
    (281, [(0, 6, true), (6, 1, false)]), (282, [(0, 6, true), (6, 1, false)]), (284, [(0, 1, false), (1, 1, false), (2, 1, false), (3, 1, false), (4, 1, false), (5, 1, false), (6, 1, false)]), (285, [(0, 1, false), (1, 1, false), (2, 1, false), (3, 1, false), (4, 1, false), (5, 1, false), (6, 1, false)]), (290, [(0, 1, false), (1, 1, false), (2, 1, false), (3, 1, false)]), (291, [(0, 1, false), (1, 1, false), (2, 1, false), (3, 1, false)]), (301, [(0, 1, false), (1, 1, false), (2, 1, false), (3, 1, false), (4, 1, false), (5, 1, false), (6, 1, false), (7, 1, false), (8, 1, false), (9, 1, false), (10, 1, false)]), (302, [(0, 1, false), (1, 1, false), (2, 1, false), (3, 1, false), (4, 1, false), (5, 1, false), (6, 1, false), (7, 1, false), (8, 1, false), (9, 1, false), (10, 1, false)])]
  ty := [(1, 1, false), (2, 1, false), (3, 1, false), (4, 1, false), (5, 1, false), (6, 1, false), (7, 4, true), (8, 4, true),
    (9, 1, false), (10, 1, false), (11, 1, false), (12, 1, false), (13, 2, true), (14, 2, true), (15, 1, false), (16, 1, false),
    (17, 1, false), (18, 1, true), (19, 1, true), (20, 1, false), (21, 1, false), (22, 1, false), (23, 1, false), (24, 1, false),
    (25, 6, true), (26, 6, true), (27, 1, false), (28, 1, false), (29, 1, false), (30, 1, false), (32, 1, false), (33, 1, false),
    (34, 1, false), (35, 1, false), (36, 1, false), (37, 1, false), (38, 1, false), (39, 1, false), (40, 1, false), (41, 1, false),
    (42, 1, false), (43, 1, false), (44, 1, false), (45, 1, false), (47, 1, false), (48, 1, false), (49, 1, false), (50, 1, false),
    (51, 1, false), (52, 1, false), (53, 1, false), (54, 1, false), (55, 2, true), (56, 2, true), (57, 1, false), (58, 1, false),
    (59, 3, true), (60, 3, true), (61, 1, false), (62, 1, false), (63, 1, false), (64, 1, false), (65, 1, false), (66, 1, false),
    (67, 1, false), (68, 1, false), (69, 1, false), (70, 1, false), (71, 1, false), (72, 1, false), (73, 1, false), (74, 1, false),
    (75, 6, true), (76, 6, true), (77, 1, false), (78, 1, false), (79, 1, false), (80, 5, true), (81, 5, true), (82, 1, false),
    (83, 1, false), (84, 1, false), (85, 1, false), (86, 1, false), (87, 1, false), (89, 1, false), (90, 1, false), (92, 1, false),
    (93, 1, false), (94, 3, true), (95, 3, true), (96, 1, false), (97, 7, true), (98, 7, true), (99, 1, false), (100, 3, true),
    (101, 3, true), (102, 1, false), (103, 1, false), (104, 6, true), (105, 6, true), (106, 4, true), (107, 4, true), (108, 1, false),
    (110, 1, false), (112, 1, false), (113, 1, false), (114, 1, false), (115, 1, false), (116, 1, false), (118, 1, false), (119, 1, false),
    (120, 1, false), (121, 1, false), (122, 1, false), (123, 1, false), (124, 1, false), (125, 1, false), (126, 1, false), (127, 3, true),
    (128, 3, true), (129, 1, false), (130, 1, false), (131, 1, false), (132, 1, false), (133, 1, false), (134, 4, true), (135, 4, true),
    (136, 1, false), (137, 1, false), (138, 1, false), (139, 2, true), (140, 2, true), (141, 1, false), (142, 1, false), (143, 1, false),
    (144, 1, false), (145, 2, true), (146, 2, true), (148, 1, false), (149, 1, false), (150, 1, false), (151, 1, false), (152, 1, false),
    (154, 1, false), (155, 1, false), (156, 1, false), (157, 1, false), (158, 1, false), (159, 1, false), (160, 5, true), (161, 5, true),
    (162, 1, false), (164, 1, false), (166, 1, false), (167, 6, true), (168, 6, true), (169, 1, false), (170, 6, true), (171, 6, true),
    (172, 1, false), (174, 1, false), (175, 1, false), (177, 1, false), (178, 1, false), (179, 1, false), (180, 1, false), (181, 1, false),
    (182, 1, false), (183, 1, false), (184, 1, false), (185, 1, false), (186, 1, false), (187, 1, false), (188, 16, true), (189, 256, true),
    (190, 516, true), (191, 516, true), (192, 1, false), (194, 1, false), (196, 1, false), (198, 1, false), (199, 1, false), (200, 1, false),
    (202, 1, false), (203, 4, true), (204, 4, true), (205, 1, false), (206, 1, false), (207, 1, false), (208, 1, false), (209, 2, true),
    (210, 2, true), (211, 1, false), (212, 1, false), (213, 1, false), (214, 1, false), (215, 1, false), (217, 4, true), (218, 4, true),
    (219, 1, false), (220, 1, false), (221, 1, false), (222, 4, true), (223, 1, false), (224, 1, false), (225, 1, false), (226, 1, false),
    (227, 1, false), (228, 1, false), (229, 1, false), (230, 1, false), (232, 1, false), (233, 1, false), (234, 1, false), (235, 1, false),
    (236, 1, false), (237, 1, false), (238, 1, false), (239, 1, false), (240, 1, false), (241, 1, false), (243, 1, false), (244, 1, false),
    (245, 1, false), (246, 1, false), (247, 1, false), (248, 4, true), (249, 4, true), (250, 1, false), (251, 1, false), (252, 1, false),
    (253, 1, false), (254, 1, false), (255, 1, false), (256, 1, false), (257, 1, false), (258, 1, false), (259, 1, false), (261, 1, false),
    (262, 1, false), (264, 1, false), (265, 1, false), (266, 1, false), (267, 1, false), (268, 1, false), (269, 1, false), (270, 1, false),
    (271, 1, false), (272, 10, true), (273, 10, true), (274, 1, false), (275, 3, true), (276, 3, true), (277, 1, false), (278, 1, false),
    (279, 7, true), (280, 7, true), (281, 7, true), (282, 7, true), (283, 1, false), (284, 7, true), (285, 7, true), (286, 1, false),
    (287, 1, false), (288, 1, false), (289, 1, false), (290, 4, true), (291, 4, true), (295, 1, false), (296, 1, false), (297, 1, false),
    (298, 1, false), (299, 1, false), (300, 1, false), (301, 11, true), (302, 11, true), (303, 1, false)]
  sl := [(22, 9, 1, false), (23, 210, 2, true), (24, 171, 6, true), (27, 39, 1, false), (28, 101, 3, true), (39, 28, 1, false), (51, 135, 4, true), (52, 60, 3, true),
    (58, 4, 1, false), (72, 107, 4, true), (73, 3, 1, false), (74, 105, 6, true), (78, 76, 6, true), (79, 140, 2, true), (103, 273, 10, true), (144, 58, 1, false),
    (159, 204, 4, true), (169, 218, 4, true), (187, 186, 1, false), (254, 5, 1, false), (269, 280, 7, true), (270, 285, 7, true), (271, 282, 7, true)]
  ik := [(2, .i64), (3, .i64), (5, .u8), (6, .u8), (12, .u64), (21, .i32), (34, .i64), (185, .u32),
    (186, .u32), (274, .u64), (295, .u8), (296, .u8), (299, .i32), (300, .i32)]
  lt := [9, 10, 11]
theorem tt_ok : tt.Ok Tryz.prog := Tab.ok_of (by kernel_rfl) (by kernel_rfl) (by kernel_rfl) (by kernel_rfl) (by kernel_rfl)
theorem mixed : Tryz.prog.follows .mixedOrders = true := by kernel_rfl
theorem z_2 : (Tryz.prog.info? 2).bind (·.zero) = some (.int .i64 0) := by kernel_rfl
theorem z_3 : (Tryz.prog.info? 3).bind (·.zero) = some (.int .i64 0) := by kernel_rfl
theorem z_4 : (Tryz.prog.info? 4).bind (·.zero) = some (.bool false) := by kernel_rfl
theorem z_5 : (Tryz.prog.info? 5).bind (·.zero) = some (.int .u8 0) := by kernel_rfl
theorem z_6 : (Tryz.prog.info? 6).bind (·.zero) = some (.int .u8 0) := by kernel_rfl
theorem z_7 : (Tryz.prog.info? 7).bind (·.zero) = some (.agg ⟨[.int .i64 0, .int .i64 0, .bool false, .int .u8 0]⟩) := by kernel_rfl
theorem z_8 : (Tryz.prog.info? 8).bind (·.zero) = some (.agg ⟨[.int .i64 0, .int .i64 0, .bool false, .int .u8 0]⟩) := by kernel_rfl
theorem z_9 : (Tryz.prog.info? 9).bind (·.zero) = some (.string ⟨#[]⟩) := by kernel_rfl
theorem z_10 : (Tryz.prog.info? 10).bind (·.zero) = some (.string ⟨#[]⟩) := by kernel_rfl
theorem z_11 : (Tryz.prog.info? 11).bind (·.zero) = some (.string ⟨#[]⟩) := by kernel_rfl
theorem z_12 : (Tryz.prog.info? 12).bind (·.zero) = some (.int .u64 0) := by kernel_rfl
theorem z_13 : (Tryz.prog.info? 13).bind (·.zero) = some (.agg ⟨[.string ⟨#[]⟩, .int .u64 0]⟩) := by kernel_rfl
theorem z_14 : (Tryz.prog.info? 14).bind (·.zero) = some (.agg ⟨[.string ⟨#[]⟩, .int .u64 0]⟩) := by kernel_rfl
theorem z_15 : (Tryz.prog.info? 15).bind (·.zero) = some (.pointer none) := by kernel_rfl
theorem z_16 : (Tryz.prog.info? 16).bind (·.zero) = some (.pointer none) := by kernel_rfl
theorem z_17 : (Tryz.prog.info? 17).bind (·.zero) = some (.pointer none) := by kernel_rfl
theorem z_18 : (Tryz.prog.info? 18).bind (·.zero) = some (.agg ⟨[.pointer none]⟩) := by kernel_rfl
theorem z_19 : (Tryz.prog.info? 19).bind (·.zero) = some (.agg ⟨[.pointer none]⟩) := by kernel_rfl
theorem z_21 : (Tryz.prog.info? 21).bind (·.zero) = some (.int .i32 0) := by kernel_rfl
theorem z_22 : (Tryz.prog.info? 22).bind (·.zero) = some (.slice none 0 0) := by kernel_rfl
theorem z_23 : (Tryz.prog.info? 23).bind (·.zero) = some (.slice none 0 0) := by kernel_rfl
theorem z_24 : (Tryz.prog.info? 24).bind (·.zero) = some (.slice none 0 0) := by kernel_rfl
theorem z_25 : (Tryz.prog.info? 25).bind (·.zero) = some (.agg ⟨[.slice none 0 0, .slice none 0 0, .slice none 0 0, .slice none 0 0, .slice none 0 0, .int .i64 0]⟩) := by kernel_rfl
theorem z_26 : (Tryz.prog.info? 26).bind (·.zero) = some (.agg ⟨[.slice none 0 0, .slice none 0 0, .slice none 0 0, .slice none 0 0, .slice none 0 0, .int .i64 0]⟩) := by kernel_rfl
theorem z_27 : (Tryz.prog.info? 27).bind (·.zero) = some (.slice none 0 0) := by kernel_rfl
theorem z_28 : (Tryz.prog.info? 28).bind (·.zero) = some (.slice none 0 0) := by kernel_rfl
theorem z_29 : (Tryz.prog.info? 29).bind (·.zero) = some (.pointer none) := by kernel_rfl
theorem z_30 : (Tryz.prog.info? 30).bind (·.zero) = some (.pointer none) := by kernel_rfl
theorem z_34 : (Tryz.prog.info? 34).bind (·.zero) = some (.int .i64 0) := by kernel_rfl
theorem z_39 : (Tryz.prog.info? 39).bind (·.zero) = some (.slice none 0 0) := by kernel_rfl
theorem z_49 : (Tryz.prog.info? 49).bind (·.zero) = some (.pointer none) := by kernel_rfl
theorem z_51 : (Tryz.prog.info? 51).bind (·.zero) = some (.slice none 0 0) := by kernel_rfl
theorem z_52 : (Tryz.prog.info? 52).bind (·.zero) = some (.slice none 0 0) := by kernel_rfl
theorem z_54 : (Tryz.prog.info? 54).bind (·.zero) = some (.pointer none) := by kernel_rfl
theorem z_55 : (Tryz.prog.info? 55).bind (·.zero) = some (.agg ⟨[.pointer none, .slice none 0 0]⟩) := by kernel_rfl
theorem z_56 : (Tryz.prog.info? 56).bind (·.zero) = some (.agg ⟨[.pointer none, .slice none 0 0]⟩) := by kernel_rfl
theorem z_58 : (Tryz.prog.info? 58).bind (·.zero) = some (.slice none 0 0) := by kernel_rfl
theorem z_59 : (Tryz.prog.info? 59).bind (·.zero) = some (.agg ⟨[.bool false, .slice none 0 0, .slice none 0 0]⟩) := by kernel_rfl
theorem z_60 : (Tryz.prog.info? 60).bind (·.zero) = some (.agg ⟨[.bool false, .slice none 0 0, .slice none 0 0]⟩) := by kernel_rfl
theorem z_72 : (Tryz.prog.info? 72).bind (·.zero) = some (.slice none 0 0) := by kernel_rfl
theorem z_73 : (Tryz.prog.info? 73).bind (·.zero) = some (.slice none 0 0) := by kernel_rfl
theorem z_74 : (Tryz.prog.info? 74).bind (·.zero) = some (.slice none 0 0) := by kernel_rfl
theorem z_75 : (Tryz.prog.info? 75).bind (·.zero) = some (.agg ⟨[.string ⟨#[]⟩, .int .i64 0, .slice none 0 0, .slice none 0 0, .int .i64 0, .slice none 0 0]⟩) := by kernel_rfl
theorem z_76 : (Tryz.prog.info? 76).bind (·.zero) = some (.agg ⟨[.string ⟨#[]⟩, .int .i64 0, .slice none 0 0, .slice none 0 0, .int .i64 0, .slice none 0 0]⟩) := by kernel_rfl
theorem z_77 : (Tryz.prog.info? 77).bind (·.zero) = some (.pointer none) := by kernel_rfl
theorem z_78 : (Tryz.prog.info? 78).bind (·.zero) = some (.slice none 0 0) := by kernel_rfl
theorem z_79 : (Tryz.prog.info? 79).bind (·.zero) = some (.slice none 0 0) := by kernel_rfl
theorem z_80 : (Tryz.prog.info? 80).bind (·.zero) = some (.agg ⟨[.pointer none, .slice none 0 0, .slice none 0 0, .slice none 0 0, .int .i64 0]⟩) := by kernel_rfl
theorem z_81 : (Tryz.prog.info? 81).bind (·.zero) = some (.agg ⟨[.pointer none, .slice none 0 0, .slice none 0 0, .slice none 0 0, .int .i64 0]⟩) := by kernel_rfl
theorem z_94 : (Tryz.prog.info? 94).bind (·.zero) = some (.agg ⟨[.pointer none, .slice none 0 0, .slice none 0 0]⟩) := by kernel_rfl
theorem z_95 : (Tryz.prog.info? 95).bind (·.zero) = some (.agg ⟨[.pointer none, .slice none 0 0, .slice none 0 0]⟩) := by kernel_rfl
theorem z_96 : (Tryz.prog.info? 96).bind (·.zero) = some (.pointer none) := by kernel_rfl
theorem z_97 : (Tryz.prog.info? 97).bind (·.zero) = some (.agg ⟨[.string ⟨#[]⟩, .int .i64 0, .slice none 0 0, .slice none 0 0, .int .i64 0, .slice none 0 0, .slice none 0 0]⟩) := by kernel_rfl
theorem z_98 : (Tryz.prog.info? 98).bind (·.zero) = some (.agg ⟨[.string ⟨#[]⟩, .int .i64 0, .slice none 0 0, .slice none 0 0, .int .i64 0, .slice none 0 0, .slice none 0 0]⟩) := by kernel_rfl
theorem z_100 : (Tryz.prog.info? 100).bind (·.zero) = some (.agg ⟨[.int .i64 0, .int .i64 0, .string ⟨#[]⟩]⟩) := by kernel_rfl
theorem z_101 : (Tryz.prog.info? 101).bind (·.zero) = some (.agg ⟨[.int .i64 0, .int .i64 0, .string ⟨#[]⟩]⟩) := by kernel_rfl
theorem z_103 : (Tryz.prog.info? 103).bind (·.zero) = some (.slice none 0 0) := by kernel_rfl
theorem z_104 : (Tryz.prog.info? 104).bind (·.zero) = some (.agg ⟨[.int .i64 0, .int .i64 0, .string ⟨#[]⟩, .string ⟨#[]⟩, .slice none 0 0, .slice none 0 0]⟩) := by kernel_rfl
theorem z_105 : (Tryz.prog.info? 105).bind (·.zero) = some (.agg ⟨[.int .i64 0, .int .i64 0, .string ⟨#[]⟩, .string ⟨#[]⟩, .slice none 0 0, .slice none 0 0]⟩) := by kernel_rfl
theorem z_106 : (Tryz.prog.info? 106).bind (·.zero) = some (.agg ⟨[.string ⟨#[]⟩, .int .i64 0, .bool false, .int .i64 0]⟩) := by kernel_rfl
theorem z_107 : (Tryz.prog.info? 107).bind (·.zero) = some (.agg ⟨[.string ⟨#[]⟩, .int .i64 0, .bool false, .int .i64 0]⟩) := by kernel_rfl
theorem z_116 : (Tryz.prog.info? 116).bind (·.zero) = some (.map none) := by kernel_rfl
theorem z_125 : (Tryz.prog.info? 125).bind (·.zero) = some (.pointer none) := by kernel_rfl
theorem z_127 : (Tryz.prog.info? 127).bind (·.zero) = some (.agg ⟨[.pointer none, .slice none 0 0, .int .i64 0]⟩) := by kernel_rfl
theorem z_128 : (Tryz.prog.info? 128).bind (·.zero) = some (.agg ⟨[.pointer none, .slice none 0 0, .int .i64 0]⟩) := by kernel_rfl
theorem z_134 : (Tryz.prog.info? 134).bind (·.zero) = some (.agg ⟨[.int .i64 0, .int .i64 0, .int .i64 0, .string ⟨#[]⟩]⟩) := by kernel_rfl
theorem z_135 : (Tryz.prog.info? 135).bind (·.zero) = some (.agg ⟨[.int .i64 0, .int .i64 0, .int .i64 0, .string ⟨#[]⟩]⟩) := by kernel_rfl
theorem z_137 : (Tryz.prog.info? 137).bind (·.zero) = some (.pointer none) := by kernel_rfl
theorem z_139 : (Tryz.prog.info? 139).bind (·.zero) = some (.agg ⟨[.string ⟨#[]⟩, .int .i64 0]⟩) := by kernel_rfl
theorem z_140 : (Tryz.prog.info? 140).bind (·.zero) = some (.agg ⟨[.string ⟨#[]⟩, .int .i64 0]⟩) := by kernel_rfl
theorem z_144 : (Tryz.prog.info? 144).bind (·.zero) = some (.slice none 0 0) := by kernel_rfl
theorem z_145 : (Tryz.prog.info? 145).bind (·.zero) = some (.agg ⟨[.slice none 0 0, .slice none 0 0]⟩) := by kernel_rfl
theorem z_146 : (Tryz.prog.info? 146).bind (·.zero) = some (.agg ⟨[.slice none 0 0, .slice none 0 0]⟩) := by kernel_rfl
theorem z_157 : (Tryz.prog.info? 157).bind (·.zero) = some (.pointer none) := by kernel_rfl
theorem z_159 : (Tryz.prog.info? 159).bind (·.zero) = some (.slice none 0 0) := by kernel_rfl
theorem z_160 : (Tryz.prog.info? 160).bind (·.zero) = some (.agg ⟨[.slice none 0 0, .int .i64 0, .int .i64 0, .int .i64 0, .int .i64 0]⟩) := by kernel_rfl
theorem z_161 : (Tryz.prog.info? 161).bind (·.zero) = some (.agg ⟨[.slice none 0 0, .int .i64 0, .int .i64 0, .int .i64 0, .int .i64 0]⟩) := by kernel_rfl
theorem z_167 : (Tryz.prog.info? 167).bind (·.zero) = some (.agg ⟨[.pointer none, .slice none 0 0, .map none, .slice none 0 0, .slice none 0 0, .int .i64 0]⟩) := by kernel_rfl
theorem z_168 : (Tryz.prog.info? 168).bind (·.zero) = some (.agg ⟨[.pointer none, .slice none 0 0, .map none, .slice none 0 0, .slice none 0 0, .int .i64 0]⟩) := by kernel_rfl
theorem z_169 : (Tryz.prog.info? 169).bind (·.zero) = some (.slice none 0 0) := by kernel_rfl
theorem z_170 : (Tryz.prog.info? 170).bind (·.zero) = some (.agg ⟨[.string ⟨#[]⟩, .string ⟨#[]⟩, .slice none 0 0, .slice none 0 0, .string ⟨#[]⟩, .slice none 0 0]⟩) := by kernel_rfl
theorem z_171 : (Tryz.prog.info? 171).bind (·.zero) = some (.agg ⟨[.string ⟨#[]⟩, .string ⟨#[]⟩, .slice none 0 0, .slice none 0 0, .string ⟨#[]⟩, .slice none 0 0]⟩) := by kernel_rfl
theorem z_185 : (Tryz.prog.info? 185).bind (·.zero) = some (.int .u32 0) := by kernel_rfl
theorem z_186 : (Tryz.prog.info? 186).bind (·.zero) = some (.int .u32 0) := by kernel_rfl
theorem z_187 : (Tryz.prog.info? 187).bind (·.zero) = some (.slice none 0 0) := by kernel_rfl
theorem z_188 : (Tryz.prog.info? 188).bind (·.zero) = some (.agg ⟨[.int .i64 0, .int .i64 0, .int .i64 0, .int .i64 0, .int .i64 0, .int .i64 0, .int .i64 0, .int .i64 0, .int .i64 0, .int .i64 0, .int .i64 0, .int .i64 0, .int .i64 0, .int .i64 0, .int .i64 0, .int .i64 0]⟩) := by kernel_rfl
theorem z_203 : (Tryz.prog.info? 203).bind (·.zero) = some (.agg ⟨[.int .i64 0, .string ⟨#[]⟩, .int .i64 0, .int .i64 0]⟩) := by kernel_rfl
theorem z_204 : (Tryz.prog.info? 204).bind (·.zero) = some (.agg ⟨[.int .i64 0, .string ⟨#[]⟩, .int .i64 0, .int .i64 0]⟩) := by kernel_rfl
theorem z_209 : (Tryz.prog.info? 209).bind (·.zero) = some (.agg ⟨[.string ⟨#[]⟩, .string ⟨#[]⟩]⟩) := by kernel_rfl
theorem z_210 : (Tryz.prog.info? 210).bind (·.zero) = some (.agg ⟨[.string ⟨#[]⟩, .string ⟨#[]⟩]⟩) := by kernel_rfl
theorem z_217 : (Tryz.prog.info? 217).bind (·.zero) = some (.agg ⟨[.string ⟨#[]⟩, .int .i64 0, .bool false, .string ⟨#[]⟩]⟩) := by kernel_rfl
theorem z_218 : (Tryz.prog.info? 218).bind (·.zero) = some (.agg ⟨[.string ⟨#[]⟩, .int .i64 0, .bool false, .string ⟨#[]⟩]⟩) := by kernel_rfl
theorem z_220 : (Tryz.prog.info? 220).bind (·.zero) = some (.pointer none) := by kernel_rfl
theorem z_222 : (Tryz.prog.info? 222).bind (·.zero) = some (.agg ⟨[.nilFunc, .nilFunc, .nilFunc, .nilFunc]⟩) := by kernel_rfl
theorem z_247 : (Tryz.prog.info? 247).bind (·.zero) = some (.pointer none) := by kernel_rfl
theorem z_248 : (Tryz.prog.info? 248).bind (·.zero) = some (.agg ⟨[.string ⟨#[]⟩, .map none, .pointer none, .slice none 0 0]⟩) := by kernel_rfl
theorem z_249 : (Tryz.prog.info? 249).bind (·.zero) = some (.agg ⟨[.string ⟨#[]⟩, .map none, .pointer none, .slice none 0 0]⟩) := by kernel_rfl
theorem z_254 : (Tryz.prog.info? 254).bind (·.zero) = some (.slice none 0 0) := by kernel_rfl
theorem z_256 : (Tryz.prog.info? 256).bind (·.zero) = some (.pointer none) := by kernel_rfl
theorem z_269 : (Tryz.prog.info? 269).bind (·.zero) = some (.slice none 0 0) := by kernel_rfl
theorem z_270 : (Tryz.prog.info? 270).bind (·.zero) = some (.slice none 0 0) := by kernel_rfl
theorem z_271 : (Tryz.prog.info? 271).bind (·.zero) = some (.slice none 0 0) := by kernel_rfl
theorem z_272 : (Tryz.prog.info? 272).bind (·.zero) = some (.agg ⟨[.int .i64 0, .bool false, .slice none 0 0, .slice none 0 0, .slice none 0 0, .slice none 0 0, .slice none 0 0, .slice none 0 0, .int .i64 0, .slice none 0 0]⟩) := by kernel_rfl
theorem z_273 : (Tryz.prog.info? 273).bind (·.zero) = some (.agg ⟨[.int .i64 0, .bool false, .slice none 0 0, .slice none 0 0, .slice none 0 0, .slice none 0 0, .slice none 0 0, .slice none 0 0, .int .i64 0, .slice none 0 0]⟩) := by kernel_rfl
theorem z_274 : (Tryz.prog.info? 274).bind (·.zero) = some (.int .u64 0) := by kernel_rfl
theorem z_275 : (Tryz.prog.info? 275).bind (·.zero) = some (.agg ⟨[.pointer none, .slice none 0 0, .slice none 0 0]⟩) := by kernel_rfl
theorem z_276 : (Tryz.prog.info? 276).bind (·.zero) = some (.agg ⟨[.pointer none, .slice none 0 0, .slice none 0 0]⟩) := by kernel_rfl
theorem z_279 : (Tryz.prog.info? 279).bind (·.zero) = some (.agg ⟨[.int .i64 0, .int .i64 0, .string ⟨#[]⟩, .string ⟨#[]⟩, .slice none 0 0, .slice none 0 0, .string ⟨#[]⟩]⟩) := by kernel_rfl
theorem z_280 : (Tryz.prog.info? 280).bind (·.zero) = some (.agg ⟨[.int .i64 0, .int .i64 0, .string ⟨#[]⟩, .string ⟨#[]⟩, .slice none 0 0, .slice none 0 0, .string ⟨#[]⟩]⟩) := by kernel_rfl
theorem z_281 : (Tryz.prog.info? 281).bind (·.zero) = some (.agg ⟨[.int .i64 0, .int .i64 0, .string ⟨#[]⟩, .string ⟨#[]⟩, .slice none 0 0, .slice none 0 0, .bool false]⟩) := by kernel_rfl
theorem z_282 : (Tryz.prog.info? 282).bind (·.zero) = some (.agg ⟨[.int .i64 0, .int .i64 0, .string ⟨#[]⟩, .string ⟨#[]⟩, .slice none 0 0, .slice none 0 0, .bool false]⟩) := by kernel_rfl
theorem z_284 : (Tryz.prog.info? 284).bind (·.zero) = some (.agg ⟨[.int .i64 0, .string ⟨#[]⟩, .bool false, .string ⟨#[]⟩, .slice none 0 0, .slice none 0 0, .slice none 0 0]⟩) := by kernel_rfl
theorem z_285 : (Tryz.prog.info? 285).bind (·.zero) = some (.agg ⟨[.int .i64 0, .string ⟨#[]⟩, .bool false, .string ⟨#[]⟩, .slice none 0 0, .slice none 0 0, .slice none 0 0]⟩) := by kernel_rfl
theorem z_290 : (Tryz.prog.info? 290).bind (·.zero) = some (.agg ⟨[.pointer none, .pointer none, .pointer none, .string ⟨#[]⟩]⟩) := by kernel_rfl
theorem z_291 : (Tryz.prog.info? 291).bind (·.zero) = some (.agg ⟨[.pointer none, .pointer none, .pointer none, .string ⟨#[]⟩]⟩) := by kernel_rfl
theorem z_295 : (Tryz.prog.info? 295).bind (·.zero) = some (.int .u8 0) := by kernel_rfl
theorem z_296 : (Tryz.prog.info? 296).bind (·.zero) = some (.int .u8 0) := by kernel_rfl
theorem z_298 : (Tryz.prog.info? 298).bind (·.zero) = some (.pointer none) := by kernel_rfl
theorem z_299 : (Tryz.prog.info? 299).bind (·.zero) = some (.int .i32 0) := by kernel_rfl
theorem z_300 : (Tryz.prog.info? 300).bind (·.zero) = some (.int .i32 0) := by kernel_rfl
theorem z_301 : (Tryz.prog.info? 301).bind (·.zero) = some (.agg ⟨[.int .u64 0, .int .u64 0, .int .u32 0, .int .u8 0, .int .u8 0, .int .u8 0, .int .u8 0, .nilFunc, .pointer none, .int .i32 0, .int .i32 0]⟩) := by kernel_rfl
theorem z_302 : (Tryz.prog.info? 302).bind (·.zero) = some (.agg ⟨[.int .u64 0, .int .u64 0, .int .u32 0, .int .u8 0, .int .u8 0, .int .u8 0, .int .u8 0, .nilFunc, .pointer none, .int .i32 0, .int .i32 0]⟩) := by kernel_rfl
theorem uk_2 : Tryz.prog.underlying 2 = some (.int .i64) := by kernel_rfl
theorem us_2 : (Tryz.prog.underlying 2).isSome = true := by kernel_rfl
theorem uk_3 : Tryz.prog.underlying 3 = some (.int .i64) := by kernel_rfl
theorem us_3 : (Tryz.prog.underlying 3).isSome = true := by kernel_rfl
theorem ub_4 : Tryz.prog.underlying 4 = some .bool := by kernel_rfl
theorem uk_5 : Tryz.prog.underlying 5 = some (.int .u8) := by kernel_rfl
theorem us_5 : (Tryz.prog.underlying 5).isSome = true := by kernel_rfl
theorem uk_6 : Tryz.prog.underlying 6 = some (.int .u8) := by kernel_rfl
theorem us_6 : (Tryz.prog.underlying 6).isSome = true := by kernel_rfl
theorem uk_9 : Tryz.prog.underlying 9 = some .string := by kernel_rfl
theorem us_9 : (Tryz.prog.underlying 9).isSome = true := by kernel_rfl
theorem uk_10 : Tryz.prog.underlying 10 = some .string := by kernel_rfl
theorem us_10 : (Tryz.prog.underlying 10).isSome = true := by kernel_rfl
theorem uk_11 : Tryz.prog.underlying 11 = some .string := by kernel_rfl
theorem us_11 : (Tryz.prog.underlying 11).isSome = true := by kernel_rfl
theorem uk_12 : Tryz.prog.underlying 12 = some (.int .u64) := by kernel_rfl
theorem us_12 : (Tryz.prog.underlying 12).isSome = true := by kernel_rfl
theorem up_15 : Tryz.prog.underlying 15 = some (.pointer 291) := by kernel_rfl
theorem up_16 : Tryz.prog.underlying 16 = some (.pointer 294) := by kernel_rfl
theorem up_17 : Tryz.prog.underlying 17 = some (.pointer 302) := by kernel_rfl
theorem uk_21 : Tryz.prog.underlying 21 = some (.int .i32) := by kernel_rfl
theorem us_21 : (Tryz.prog.underlying 21).isSome = true := by kernel_rfl
theorem us_22 : (Tryz.prog.underlying 22).isSome = true := by kernel_rfl
theorem ul_22 : Tryz.prog.underlying 22 = some (.slice 9) := by kernel_rfl
theorem us_23 : (Tryz.prog.underlying 23).isSome = true := by kernel_rfl
theorem ul_23 : Tryz.prog.underlying 23 = some (.slice 210) := by kernel_rfl
theorem us_24 : (Tryz.prog.underlying 24).isSome = true := by kernel_rfl
theorem ul_24 : Tryz.prog.underlying 24 = some (.slice 171) := by kernel_rfl
theorem us_27 : (Tryz.prog.underlying 27).isSome = true := by kernel_rfl
theorem ul_27 : Tryz.prog.underlying 27 = some (.slice 39) := by kernel_rfl
theorem us_28 : (Tryz.prog.underlying 28).isSome = true := by kernel_rfl
theorem ul_28 : Tryz.prog.underlying 28 = some (.slice 101) := by kernel_rfl
theorem up_29 : Tryz.prog.underlying 29 = some (.pointer 95) := by kernel_rfl
theorem up_30 : Tryz.prog.underlying 30 = some (.pointer 56) := by kernel_rfl
theorem uk_34 : Tryz.prog.underlying 34 = some (.int .i64) := by kernel_rfl
theorem us_34 : (Tryz.prog.underlying 34).isSome = true := by kernel_rfl
theorem us_39 : (Tryz.prog.underlying 39).isSome = true := by kernel_rfl
theorem ul_39 : Tryz.prog.underlying 39 = some (.slice 28) := by kernel_rfl
theorem up_49 : Tryz.prog.underlying 49 = some (.pointer 168) := by kernel_rfl
theorem us_51 : (Tryz.prog.underlying 51).isSome = true := by kernel_rfl
theorem ul_51 : Tryz.prog.underlying 51 = some (.slice 135) := by kernel_rfl
theorem us_52 : (Tryz.prog.underlying 52).isSome = true := by kernel_rfl
theorem ul_52 : Tryz.prog.underlying 52 = some (.slice 60) := by kernel_rfl
theorem up_54 : Tryz.prog.underlying 54 = some (.pointer 81) := by kernel_rfl
theorem us_58 : (Tryz.prog.underlying 58).isSome = true := by kernel_rfl
theorem ul_58 : Tryz.prog.underlying 58 = some (.slice 4) := by kernel_rfl
theorem us_72 : (Tryz.prog.underlying 72).isSome = true := by kernel_rfl
theorem ul_72 : Tryz.prog.underlying 72 = some (.slice 107) := by kernel_rfl
theorem us_73 : (Tryz.prog.underlying 73).isSome = true := by kernel_rfl
theorem ul_73 : Tryz.prog.underlying 73 = some (.slice 3) := by kernel_rfl
theorem us_74 : (Tryz.prog.underlying 74).isSome = true := by kernel_rfl
theorem ul_74 : Tryz.prog.underlying 74 = some (.slice 105) := by kernel_rfl
theorem up_77 : Tryz.prog.underlying 77 = some (.pointer 146) := by kernel_rfl
theorem us_78 : (Tryz.prog.underlying 78).isSome = true := by kernel_rfl
theorem ul_78 : Tryz.prog.underlying 78 = some (.slice 76) := by kernel_rfl
theorem us_79 : (Tryz.prog.underlying 79).isSome = true := by kernel_rfl
theorem ul_79 : Tryz.prog.underlying 79 = some (.slice 140) := by kernel_rfl
theorem up_96 : Tryz.prog.underlying 96 = some (.pointer 98) := by kernel_rfl
theorem us_103 : (Tryz.prog.underlying 103).isSome = true := by kernel_rfl
theorem ul_103 : Tryz.prog.underlying 103 = some (.slice 273) := by kernel_rfl
theorem um_116 : Tryz.prog.underlying 116 = some (.map 9 3) := by kernel_rfl
theorem up_125 : Tryz.prog.underlying 125 = some (.pointer 128) := by kernel_rfl
theorem up_137 : Tryz.prog.underlying 137 = some (.pointer 191) := by kernel_rfl
theorem us_144 : (Tryz.prog.underlying 144).isSome = true := by kernel_rfl
theorem ul_144 : Tryz.prog.underlying 144 = some (.slice 58) := by kernel_rfl
theorem up_157 : Tryz.prog.underlying 157 = some (.pointer 161) := by kernel_rfl
theorem us_159 : (Tryz.prog.underlying 159).isSome = true := by kernel_rfl
theorem ul_159 : Tryz.prog.underlying 159 = some (.slice 204) := by kernel_rfl
theorem us_169 : (Tryz.prog.underlying 169).isSome = true := by kernel_rfl
theorem ul_169 : Tryz.prog.underlying 169 = some (.slice 218) := by kernel_rfl
theorem uk_185 : Tryz.prog.underlying 185 = some (.int .u32) := by kernel_rfl
theorem us_185 : (Tryz.prog.underlying 185).isSome = true := by kernel_rfl
theorem uk_186 : Tryz.prog.underlying 186 = some (.int .u32) := by kernel_rfl
theorem us_186 : (Tryz.prog.underlying 186).isSome = true := by kernel_rfl
theorem us_187 : (Tryz.prog.underlying 187).isSome = true := by kernel_rfl
theorem ul_187 : Tryz.prog.underlying 187 = some (.slice 186) := by kernel_rfl
theorem ua_188 : Tryz.prog.underlying 188 = some (.array 16 3) := by kernel_rfl
theorem ua_189 : Tryz.prog.underlying 189 = some (.array 16 188) := by kernel_rfl
theorem z_190 : (Tryz.prog.info? 190).bind (·.zero) = some (.agg ⟨[.slice none 0 0, .map none, .slice none 0 0, .slice none 0 0] ++ (arCells .i64 256 [] ++ (arCells .i64 256 [] ++ []))⟩) := by kernel_rfl
theorem z_191 : (Tryz.prog.info? 191).bind (·.zero) = some (.agg ⟨[.slice none 0 0, .map none, .slice none 0 0, .slice none 0 0] ++ (arCells .i64 256 [] ++ (arCells .i64 256 [] ++ []))⟩) := by kernel_rfl
theorem up_220 : Tryz.prog.underlying 220 = some (.pointer 76) := by kernel_rfl
theorem ua_222 : Tryz.prog.underlying 222 = some (.array 4 214) := by kernel_rfl
theorem up_247 : Tryz.prog.underlying 247 = some (.pointer 249) := by kernel_rfl
theorem us_254 : (Tryz.prog.underlying 254).isSome = true := by kernel_rfl
theorem ul_254 : Tryz.prog.underlying 254 = some (.slice 5) := by kernel_rfl
theorem up_256 : Tryz.prog.underlying 256 = some (.pointer 276) := by kernel_rfl
theorem us_269 : (Tryz.prog.underlying 269).isSome = true := by kernel_rfl
theorem ul_269 : Tryz.prog.underlying 269 = some (.slice 280) := by kernel_rfl
theorem us_270 : (Tryz.prog.underlying 270).isSome = true := by kernel_rfl
theorem ul_270 : Tryz.prog.underlying 270 = some (.slice 285) := by kernel_rfl
theorem us_271 : (Tryz.prog.underlying 271).isSome = true := by kernel_rfl
theorem ul_271 : Tryz.prog.underlying 271 = some (.slice 282) := by kernel_rfl
theorem uk_274 : Tryz.prog.underlying 274 = some (.int .u64) := by kernel_rfl
theorem us_274 : (Tryz.prog.underlying 274).isSome = true := by kernel_rfl
theorem ua_292 : Tryz.prog.underlying 292 = some (.array 0 16) := by kernel_rfl
theorem uk_295 : Tryz.prog.underlying 295 = some (.int .u8) := by kernel_rfl
theorem us_295 : (Tryz.prog.underlying 295).isSome = true := by kernel_rfl
theorem uk_296 : Tryz.prog.underlying 296 = some (.int .u8) := by kernel_rfl
theorem us_296 : (Tryz.prog.underlying 296).isSome = true := by kernel_rfl
theorem up_298 : Tryz.prog.underlying 298 = some (.pointer 5) := by kernel_rfl
theorem uk_299 : Tryz.prog.underlying 299 = some (.int .i32) := by kernel_rfl
theorem us_299 : (Tryz.prog.underlying 299).isSome = true := by kernel_rfl
theorem uk_300 : Tryz.prog.underlying 300 = some (.int .i32) := by kernel_rfl
theorem us_300 : (Tryz.prog.underlying 300).isSome = true := by kernel_rfl
end Go.Proofs.YthaekpmkjfmilaaGreat
