/- The tables of this seat's types (sizes, fields' places, elements), and that they are the program's. Written by tab.py. -/
import Derived.Test.YtliaopbgkcdibaaProg
import Derived.Test.YtliaopbgkcdibaaCxC
set_option maxRecDepth 100000
namespace Go.Proofs.Ytliaopbgkcdibaa
def tt : Tab where
  st := [(7, [(0, 1, false), (1, 1, false), (2, 1, false), (3, 1, false)]), (8, [(0, 1, false), (1, 1, false), (2, 1, false), (3, 1, false)]), (13, [(0, 1, false), (1, 1, false)]), (14, [(0, 1, false), (1, 1, false)]), (18, [(0, 1, false)]), (19, [(0, 1, false)]), (26, [(0, 1, false), (1, 1, false)]), (27, [(0, 1, false), (1, 1, false)]),
    (50, [(0, 1, false), (1, 1, false), (2, 1, false), (3, 1, false), (4, 1, false), (5, 1, false), (6, 1, false), (7, 1, false)]), (51, [(0, 1, false), (1, 1, false), (2, 1, false), (3, 1, false), (4, 1, false), (5, 1, false), (6, 1, false), (7, 1, false)]), (56, [(0, 1, false), (1, 1, false), (2, 1, false)]), (57, [(0, 1, false), (1, 1, false), (2, 1, false)]), (77, [(0, 1, false), (1, 1, false), (2, 1, false), (3, 1, false), (4, 256, true), (260, 256, true)]), (78, [(0, 1, false), (1, 1, false), (2, 1, false), (3, 1, false), (4, 256, true), (260, 256, true)]), (85, [(0, 1, false), (1, 1, false)]), (86, [(0, 1, false), (1, 1, false)]),
    (88, [(0, 1, false), (1, 1, false)]), (89, [(0, 1, false), (1, 1, false)]), (102, [(0, 1, false), (1, 1, false), (2, 1, false), (3, 1, false), (4, 1, false), (5, 1, false)]), (103, [(0, 1, false), (1, 1, false), (2, 1, false), (3, 1, false), (4, 1, false), (5, 1, false)]), (108, [(0, 1, false), (1, 1, false), (2, 1, false), (3, 1, false), (4, 1, false), (5, 1, false)]), (109, [(0, 1, false), (1, 1, false), (2, 1, false), (3, 1, false), (4, 1, false), (5, 1, false)]), (111, [(0, 1, false), (1, 1, false), (2, 1, false), (3, 1, false)]), (112, [(0, 1, false), (1, 1, false), (2, 1, false), (3, 1, false)]),
    (116, [(0, 1, false), (1, 1, false), (2, 1, false), (3, 1, false), (4, 1, false), (5, 1, false)]), (117, [(0, 1, false), (1, 1, false), (2, 1, false), (3, 1, false), (4, 1, false), (5, 1, false)]), (119, [(0, 1, false), (1, 1, false)]), (120, [(0, 1, false), (1, 1, false)]), (124, [(0, 1, false), (1, 1, false), (2, 1, false), (3, 1, false), (4, 1, false), (5, 1, false)]), (125, [(0, 1, false), (1, 1, false), (2, 1, false), (3, 1, false), (4, 1, false), (5, 1, false)]), (128, [(0, 1, false), (1, 1, false), (2, 1, false), (3, 1, false), (4, 1, false)]), (129, [(0, 1, false), (1, 1, false), (2, 1, false), (3, 1, false), (4, 1, false)]),
    (134, [(0, 1, false), (1, 1, false), (2, 1, false), (3, 1, false), (4, 1, false), (5, 1, false)]), (135, [(0, 1, false), (1, 1, false), (2, 1, false), (3, 1, false), (4, 1, false), (5, 1, false)]), (141, [(0, 1, false), (1, 1, false), (2, 1, false), (3, 1, false)]), (142, [(0, 1, false), (1, 1, false), (2, 1, false), (3, 1, false)]), (152, [(0, 1, false), (1, 1, false), (2, 1, false), (3, 1, false), (4, 1, false)]), (153, [(0, 1, false), (1, 1, false), (2, 1, false), (3, 1, false), (4, 1, false)]), (164, [(0, 1, false), (1, 1, false), (2, 1, false), (3, 1, false)]), (165, [(0, 1, false), (1, 1, false), (2, 1, false), (3, 1, false)]),
    (171, [(0, 1, false), (1, 1, false), (2, 1, false), (3, 1, false)]), (172, [(0, 1, false), (1, 1, false), (2, 1, false), (3, 1, false)]), (189, [(0, 1, false), (1, 1, false), (2, 1, false), (3, 1, false), (4, 1, false), (5, 1, false), (6, 1, false), (7, 1, false), (8, 1, false), (9, 1, false)]), (190, [(0, 1, false), (1, 1, false), (2, 1, false), (3, 1, false), (4, 1, false), (5, 1, false), (6, 1, false), (7, 1, false), (8, 1, false), (9, 1, false)]), (192, [(0, 6, true), (6, 1, false)]), (193, [(0, 6, true), (6, 1, false)]), (194, [(0, 1, false), (1, 1, false), (2, 1, false), (3, 1, false), (4, 1, false), (5, 1, false), (6, 1, false)]), (195, [(0, 1, false), (1, 1, false), (2, 1, false), (3, 1, false), (4, 1, false), (5, 1, false), (6, 1, false)]),
    (198, [(0, 6, true), (6, 1, false)]), (199, [(0, 6, true), (6, 1, false)]), (200, [(0, 1, false), (1, 1, false), (2, 1, false), (3, 1, false)]), (201, [(0, 1, false), (1, 1, false), (2, 1, false), (3, 1, false)]), (211, [(0, 1, false), (1, 1, false), (2, 1, false), (3, 1, false), (4, 1, false), (5, 1, false), (6, 1, false), (7, 1, false), (8, 1, false), (9, 1, false), (10, 1, false)]), (212, [(0, 1, false), (1, 1, false), (2, 1, false), (3, 1, false), (4, 1, false), (5, 1, false), (6, 1, false), (7, 1, false), (8, 1, false), (9, 1, false), (10, 1, false)])]
  ty := [(1, 1, false), (2, 1, false), (3, 1, false), (4, 1, false), (5, 1, false), (6, 1, false), (7, 4, true), (8, 4, true),
    (9, 1, false), (10, 1, false), (11, 1, false), (12, 1, false), (13, 2, true), (14, 2, true), (15, 1, false), (16, 1, false),
    (17, 1, false), (18, 1, true), (19, 1, true), (20, 1, false), (21, 1, false), (22, 1, false), (23, 1, false), (24, 1, false),
    (25, 1, false), (26, 2, true), (27, 2, true), (28, 1, false), (29, 1, false), (31, 1, false), (32, 1, false), (33, 1, false),
    (34, 1, false), (35, 1, false), (36, 1, false), (38, 1, false), (40, 1, false), (41, 1, false), (42, 1, false), (43, 1, false),
    (44, 1, false), (45, 1, false), (46, 1, false), (47, 1, false), (48, 1, false), (49, 1, false), (50, 8, true), (51, 8, true),
    (52, 1, false), (53, 1, false), (54, 1, false), (55, 1, false), (56, 3, true), (57, 3, true), (58, 1, false), (59, 1, false),
    (60, 1, false), (61, 1, false), (62, 1, false), (63, 1, false), (64, 1, false), (65, 1, false), (66, 1, false), (67, 1, false),
    (68, 1, false), (69, 1, false), (71, 1, false), (72, 1, false), (73, 1, false), (74, 1, false), (75, 16, true), (76, 256, true),
    (77, 516, true), (78, 516, true), (79, 1, false), (80, 1, false), (81, 1, false), (82, 1, false), (83, 1, false), (84, 1, false),
    (85, 2, true), (86, 2, true), (87, 1, false), (88, 2, true), (89, 2, true), (90, 1, false), (91, 1, false), (92, 1, false),
    (93, 1, false), (94, 1, false), (95, 1, false), (96, 1, false), (97, 1, false), (98, 1, false), (99, 1, false), (100, 1, false),
    (101, 1, false), (102, 6, true), (103, 6, true), (104, 1, false), (105, 1, false), (106, 1, false), (107, 1, false), (108, 6, true),
    (109, 6, true), (110, 1, false), (111, 4, true), (112, 4, true), (113, 1, false), (114, 1, false), (115, 1, false), (116, 6, true),
    (117, 6, true), (118, 1, false), (119, 2, true), (120, 2, true), (122, 1, false), (123, 1, false), (124, 6, true), (125, 6, true),
    (126, 1, false), (127, 1, false), (128, 5, true), (129, 5, true), (131, 1, false), (132, 1, false), (133, 1, false), (134, 6, true),
    (135, 6, true), (136, 1, false), (138, 1, false), (140, 1, false), (141, 4, true), (142, 4, true), (143, 1, false), (144, 1, false),
    (145, 1, false), (146, 4, true), (147, 1, false), (148, 1, false), (149, 1, false), (150, 1, false), (151, 1, false), (152, 5, true),
    (153, 5, true), (154, 1, false), (156, 1, false), (157, 1, false), (158, 1, false), (159, 1, false), (160, 1, false), (161, 1, false),
    (162, 1, false), (163, 1, false), (164, 4, true), (165, 4, true), (166, 1, false), (167, 1, false), (168, 1, false), (170, 1, false),
    (171, 4, true), (172, 4, true), (173, 1, false), (174, 1, false), (175, 1, false), (176, 1, false), (177, 1, false), (179, 1, false),
    (180, 1, false), (182, 1, false), (183, 1, false), (184, 1, false), (185, 1, false), (186, 1, false), (187, 1, false), (188, 1, false),
    (189, 10, true), (190, 10, true), (191, 1, false), (192, 7, true), (193, 7, true), (194, 7, true), (195, 7, true), (196, 1, false),
    (197, 1, false), (198, 7, true), (199, 7, true), (200, 4, true), (201, 4, true), (205, 1, false), (206, 1, false), (207, 1, false),
    (208, 1, false), (209, 1, false), (210, 1, false), (211, 11, true), (212, 11, true), (213, 1, false)]
  sl := [(22, 9, 1, false), (23, 27, 2, true), (45, 3, 1, false), (46, 51, 8, true), (47, 129, 5, true), (48, 89, 2, true), (49, 4, 1, false), (65, 109, 6, true),
    (67, 120, 2, true), (74, 83, 1, false), (84, 49, 1, false), (106, 112, 4, true), (107, 117, 6, true), (115, 190, 10, true), (123, 135, 6, true), (133, 142, 4, true),
    (151, 172, 4, true), (184, 5, 1, false), (186, 193, 7, true), (187, 195, 7, true), (188, 199, 7, true)]
  ik := [(2, .i64), (3, .i64), (5, .u8), (6, .u8), (12, .u64), (21, .i32), (29, .i64), (82, .u32),
    (83, .u32), (158, .u64), (160, .u64), (205, .u8), (206, .u8), (209, .i32), (210, .i32)]
  lt := [9, 10, 11]
theorem tt_ok : tt.Ok Try.prog := Tab.ok_of (by kernel_rfl) (by kernel_rfl) (by kernel_rfl) (by kernel_rfl) (by kernel_rfl)
theorem mixed : Try.prog.follows .mixedOrders = true := by kernel_rfl
theorem z_2 : (Try.prog.info? 2).bind (·.zero) = some (.int .i64 0) := by kernel_rfl
theorem z_3 : (Try.prog.info? 3).bind (·.zero) = some (.int .i64 0) := by kernel_rfl
theorem z_4 : (Try.prog.info? 4).bind (·.zero) = some (.bool false) := by kernel_rfl
theorem z_5 : (Try.prog.info? 5).bind (·.zero) = some (.int .u8 0) := by kernel_rfl
theorem z_6 : (Try.prog.info? 6).bind (·.zero) = some (.int .u8 0) := by kernel_rfl
theorem z_7 : (Try.prog.info? 7).bind (·.zero) = some (.agg ⟨[.int .i64 0, .int .i64 0, .bool false, .int .u8 0]⟩) := by kernel_rfl
theorem z_8 : (Try.prog.info? 8).bind (·.zero) = some (.agg ⟨[.int .i64 0, .int .i64 0, .bool false, .int .u8 0]⟩) := by kernel_rfl
theorem z_9 : (Try.prog.info? 9).bind (·.zero) = some (.string ⟨#[]⟩) := by kernel_rfl
theorem z_10 : (Try.prog.info? 10).bind (·.zero) = some (.string ⟨#[]⟩) := by kernel_rfl
theorem z_11 : (Try.prog.info? 11).bind (·.zero) = some (.string ⟨#[]⟩) := by kernel_rfl
theorem z_12 : (Try.prog.info? 12).bind (·.zero) = some (.int .u64 0) := by kernel_rfl
theorem z_13 : (Try.prog.info? 13).bind (·.zero) = some (.agg ⟨[.string ⟨#[]⟩, .int .u64 0]⟩) := by kernel_rfl
theorem z_14 : (Try.prog.info? 14).bind (·.zero) = some (.agg ⟨[.string ⟨#[]⟩, .int .u64 0]⟩) := by kernel_rfl
theorem z_15 : (Try.prog.info? 15).bind (·.zero) = some (.pointer none) := by kernel_rfl
theorem z_16 : (Try.prog.info? 16).bind (·.zero) = some (.pointer none) := by kernel_rfl
theorem z_17 : (Try.prog.info? 17).bind (·.zero) = some (.pointer none) := by kernel_rfl
theorem z_18 : (Try.prog.info? 18).bind (·.zero) = some (.agg ⟨[.pointer none]⟩) := by kernel_rfl
theorem z_19 : (Try.prog.info? 19).bind (·.zero) = some (.agg ⟨[.pointer none]⟩) := by kernel_rfl
theorem z_21 : (Try.prog.info? 21).bind (·.zero) = some (.int .i32 0) := by kernel_rfl
theorem z_22 : (Try.prog.info? 22).bind (·.zero) = some (.slice none 0 0) := by kernel_rfl
theorem z_23 : (Try.prog.info? 23).bind (·.zero) = some (.slice none 0 0) := by kernel_rfl
theorem z_26 : (Try.prog.info? 26).bind (·.zero) = some (.agg ⟨[.string ⟨#[]⟩, .string ⟨#[]⟩]⟩) := by kernel_rfl
theorem z_27 : (Try.prog.info? 27).bind (·.zero) = some (.agg ⟨[.string ⟨#[]⟩, .string ⟨#[]⟩]⟩) := by kernel_rfl
theorem z_28 : (Try.prog.info? 28).bind (·.zero) = some (.pointer none) := by kernel_rfl
theorem z_29 : (Try.prog.info? 29).bind (·.zero) = some (.int .i64 0) := by kernel_rfl
theorem z_36 : (Try.prog.info? 36).bind (·.zero) = some (.pointer none) := by kernel_rfl
theorem z_45 : (Try.prog.info? 45).bind (·.zero) = some (.slice none 0 0) := by kernel_rfl
theorem z_46 : (Try.prog.info? 46).bind (·.zero) = some (.slice none 0 0) := by kernel_rfl
theorem z_47 : (Try.prog.info? 47).bind (·.zero) = some (.slice none 0 0) := by kernel_rfl
theorem z_48 : (Try.prog.info? 48).bind (·.zero) = some (.slice none 0 0) := by kernel_rfl
theorem z_49 : (Try.prog.info? 49).bind (·.zero) = some (.slice none 0 0) := by kernel_rfl
theorem z_50 : (Try.prog.info? 50).bind (·.zero) = some (.agg ⟨[.int .i64 0, .int .i64 0, .slice none 0 0, .slice none 0 0, .slice none 0 0, .slice none 0 0, .slice none 0 0, .int .i64 0]⟩) := by kernel_rfl
theorem z_51 : (Try.prog.info? 51).bind (·.zero) = some (.agg ⟨[.int .i64 0, .int .i64 0, .slice none 0 0, .slice none 0 0, .slice none 0 0, .slice none 0 0, .slice none 0 0, .int .i64 0]⟩) := by kernel_rfl
theorem z_53 : (Try.prog.info? 53).bind (·.zero) = some (.complex .f64 0 0) := by kernel_rfl
theorem z_56 : (Try.prog.info? 56).bind (·.zero) = some (.agg ⟨[.int .i64 0, .int .i64 0, .bool false]⟩) := by kernel_rfl
theorem z_57 : (Try.prog.info? 57).bind (·.zero) = some (.agg ⟨[.int .i64 0, .int .i64 0, .bool false]⟩) := by kernel_rfl
theorem z_63 : (Try.prog.info? 63).bind (·.zero) = some (.pointer none) := by kernel_rfl
theorem z_65 : (Try.prog.info? 65).bind (·.zero) = some (.slice none 0 0) := by kernel_rfl
theorem z_67 : (Try.prog.info? 67).bind (·.zero) = some (.slice none 0 0) := by kernel_rfl
theorem z_73 : (Try.prog.info? 73).bind (·.zero) = some (.map none) := by kernel_rfl
theorem z_74 : (Try.prog.info? 74).bind (·.zero) = some (.slice none 0 0) := by kernel_rfl
theorem z_75 : (Try.prog.info? 75).bind (·.zero) = some (.agg ⟨[.int .i64 0, .int .i64 0, .int .i64 0, .int .i64 0, .int .i64 0, .int .i64 0, .int .i64 0, .int .i64 0, .int .i64 0, .int .i64 0, .int .i64 0, .int .i64 0, .int .i64 0, .int .i64 0, .int .i64 0, .int .i64 0]⟩) := by kernel_rfl
theorem z_82 : (Try.prog.info? 82).bind (·.zero) = some (.int .u32 0) := by kernel_rfl
theorem z_83 : (Try.prog.info? 83).bind (·.zero) = some (.int .u32 0) := by kernel_rfl
theorem z_84 : (Try.prog.info? 84).bind (·.zero) = some (.slice none 0 0) := by kernel_rfl
theorem z_85 : (Try.prog.info? 85).bind (·.zero) = some (.agg ⟨[.slice none 0 0, .slice none 0 0]⟩) := by kernel_rfl
theorem z_86 : (Try.prog.info? 86).bind (·.zero) = some (.agg ⟨[.slice none 0 0, .slice none 0 0]⟩) := by kernel_rfl
theorem z_88 : (Try.prog.info? 88).bind (·.zero) = some (.agg ⟨[.string ⟨#[]⟩, .slice none 0 0]⟩) := by kernel_rfl
theorem z_89 : (Try.prog.info? 89).bind (·.zero) = some (.agg ⟨[.string ⟨#[]⟩, .slice none 0 0]⟩) := by kernel_rfl
theorem z_99 : (Try.prog.info? 99).bind (·.zero) = some (.float .f64 0) := by kernel_rfl
theorem z_102 : (Try.prog.info? 102).bind (·.zero) = some (.agg ⟨[.pointer none, .slice none 0 0, .map none, .slice none 0 0, .slice none 0 0, .int .i64 0]⟩) := by kernel_rfl
theorem z_103 : (Try.prog.info? 103).bind (·.zero) = some (.agg ⟨[.pointer none, .slice none 0 0, .map none, .slice none 0 0, .slice none 0 0, .int .i64 0]⟩) := by kernel_rfl
theorem z_106 : (Try.prog.info? 106).bind (·.zero) = some (.slice none 0 0) := by kernel_rfl
theorem z_107 : (Try.prog.info? 107).bind (·.zero) = some (.slice none 0 0) := by kernel_rfl
theorem z_108 : (Try.prog.info? 108).bind (·.zero) = some (.agg ⟨[.string ⟨#[]⟩, .int .i64 0, .slice none 0 0, .slice none 0 0, .int .i64 0, .slice none 0 0]⟩) := by kernel_rfl
theorem z_109 : (Try.prog.info? 109).bind (·.zero) = some (.agg ⟨[.string ⟨#[]⟩, .int .i64 0, .slice none 0 0, .slice none 0 0, .int .i64 0, .slice none 0 0]⟩) := by kernel_rfl
theorem z_111 : (Try.prog.info? 111).bind (·.zero) = some (.agg ⟨[.string ⟨#[]⟩, .int .i64 0, .bool false, .int .i64 0]⟩) := by kernel_rfl
theorem z_112 : (Try.prog.info? 112).bind (·.zero) = some (.agg ⟨[.string ⟨#[]⟩, .int .i64 0, .bool false, .int .i64 0]⟩) := by kernel_rfl
theorem z_115 : (Try.prog.info? 115).bind (·.zero) = some (.slice none 0 0) := by kernel_rfl
theorem z_116 : (Try.prog.info? 116).bind (·.zero) = some (.agg ⟨[.int .i64 0, .int .i64 0, .string ⟨#[]⟩, .string ⟨#[]⟩, .slice none 0 0, .slice none 0 0]⟩) := by kernel_rfl
theorem z_117 : (Try.prog.info? 117).bind (·.zero) = some (.agg ⟨[.int .i64 0, .int .i64 0, .string ⟨#[]⟩, .string ⟨#[]⟩, .slice none 0 0, .slice none 0 0]⟩) := by kernel_rfl
theorem z_119 : (Try.prog.info? 119).bind (·.zero) = some (.agg ⟨[.string ⟨#[]⟩, .int .i64 0]⟩) := by kernel_rfl
theorem z_120 : (Try.prog.info? 120).bind (·.zero) = some (.agg ⟨[.string ⟨#[]⟩, .int .i64 0]⟩) := by kernel_rfl
theorem z_123 : (Try.prog.info? 123).bind (·.zero) = some (.slice none 0 0) := by kernel_rfl
theorem z_124 : (Try.prog.info? 124).bind (·.zero) = some (.agg ⟨[.slice none 0 0, .slice none 0 0, .slice none 0 0, .slice none 0 0, .slice none 0 0, .int .i64 0]⟩) := by kernel_rfl
theorem z_125 : (Try.prog.info? 125).bind (·.zero) = some (.agg ⟨[.slice none 0 0, .slice none 0 0, .slice none 0 0, .slice none 0 0, .slice none 0 0, .int .i64 0]⟩) := by kernel_rfl
theorem z_128 : (Try.prog.info? 128).bind (·.zero) = some (.agg ⟨[.int .i64 0, .int .i64 0, .string ⟨#[]⟩, .slice none 0 0, .slice none 0 0]⟩) := by kernel_rfl
theorem z_129 : (Try.prog.info? 129).bind (·.zero) = some (.agg ⟨[.int .i64 0, .int .i64 0, .string ⟨#[]⟩, .slice none 0 0, .slice none 0 0]⟩) := by kernel_rfl
theorem z_133 : (Try.prog.info? 133).bind (·.zero) = some (.slice none 0 0) := by kernel_rfl
theorem z_134 : (Try.prog.info? 134).bind (·.zero) = some (.agg ⟨[.string ⟨#[]⟩, .string ⟨#[]⟩, .slice none 0 0, .slice none 0 0, .string ⟨#[]⟩, .slice none 0 0]⟩) := by kernel_rfl
theorem z_135 : (Try.prog.info? 135).bind (·.zero) = some (.agg ⟨[.string ⟨#[]⟩, .string ⟨#[]⟩, .slice none 0 0, .slice none 0 0, .string ⟨#[]⟩, .slice none 0 0]⟩) := by kernel_rfl
theorem z_141 : (Try.prog.info? 141).bind (·.zero) = some (.agg ⟨[.string ⟨#[]⟩, .int .i64 0, .bool false, .string ⟨#[]⟩]⟩) := by kernel_rfl
theorem z_142 : (Try.prog.info? 142).bind (·.zero) = some (.agg ⟨[.string ⟨#[]⟩, .int .i64 0, .bool false, .string ⟨#[]⟩]⟩) := by kernel_rfl
theorem z_144 : (Try.prog.info? 144).bind (·.zero) = some (.pointer none) := by kernel_rfl
theorem z_146 : (Try.prog.info? 146).bind (·.zero) = some (.agg ⟨[.nilFunc, .nilFunc, .nilFunc, .nilFunc]⟩) := by kernel_rfl
theorem z_149 : (Try.prog.info? 149).bind (·.zero) = some (.pointer none) := by kernel_rfl
theorem z_151 : (Try.prog.info? 151).bind (·.zero) = some (.slice none 0 0) := by kernel_rfl
theorem z_152 : (Try.prog.info? 152).bind (·.zero) = some (.agg ⟨[.slice none 0 0, .int .i64 0, .int .i64 0, .int .i64 0, .int .i64 0]⟩) := by kernel_rfl
theorem z_153 : (Try.prog.info? 153).bind (·.zero) = some (.agg ⟨[.slice none 0 0, .int .i64 0, .int .i64 0, .int .i64 0, .int .i64 0]⟩) := by kernel_rfl
theorem z_158 : (Try.prog.info? 158).bind (·.zero) = some (.int .u64 0) := by kernel_rfl
theorem z_160 : (Try.prog.info? 160).bind (·.zero) = some (.int .u64 0) := by kernel_rfl
theorem z_163 : (Try.prog.info? 163).bind (·.zero) = some (.pointer none) := by kernel_rfl
theorem z_164 : (Try.prog.info? 164).bind (·.zero) = some (.agg ⟨[.string ⟨#[]⟩, .map none, .pointer none, .slice none 0 0]⟩) := by kernel_rfl
theorem z_165 : (Try.prog.info? 165).bind (·.zero) = some (.agg ⟨[.string ⟨#[]⟩, .map none, .pointer none, .slice none 0 0]⟩) := by kernel_rfl
theorem z_171 : (Try.prog.info? 171).bind (·.zero) = some (.agg ⟨[.int .i64 0, .string ⟨#[]⟩, .int .i64 0, .int .i64 0]⟩) := by kernel_rfl
theorem z_172 : (Try.prog.info? 172).bind (·.zero) = some (.agg ⟨[.int .i64 0, .string ⟨#[]⟩, .int .i64 0, .int .i64 0]⟩) := by kernel_rfl
theorem z_184 : (Try.prog.info? 184).bind (·.zero) = some (.slice none 0 0) := by kernel_rfl
theorem z_186 : (Try.prog.info? 186).bind (·.zero) = some (.slice none 0 0) := by kernel_rfl
theorem z_187 : (Try.prog.info? 187).bind (·.zero) = some (.slice none 0 0) := by kernel_rfl
theorem z_188 : (Try.prog.info? 188).bind (·.zero) = some (.slice none 0 0) := by kernel_rfl
theorem z_189 : (Try.prog.info? 189).bind (·.zero) = some (.agg ⟨[.int .i64 0, .bool false, .slice none 0 0, .slice none 0 0, .slice none 0 0, .slice none 0 0, .slice none 0 0, .slice none 0 0, .int .i64 0, .slice none 0 0]⟩) := by kernel_rfl
theorem z_190 : (Try.prog.info? 190).bind (·.zero) = some (.agg ⟨[.int .i64 0, .bool false, .slice none 0 0, .slice none 0 0, .slice none 0 0, .slice none 0 0, .slice none 0 0, .slice none 0 0, .int .i64 0, .slice none 0 0]⟩) := by kernel_rfl
theorem z_192 : (Try.prog.info? 192).bind (·.zero) = some (.agg ⟨[.int .i64 0, .int .i64 0, .string ⟨#[]⟩, .string ⟨#[]⟩, .slice none 0 0, .slice none 0 0, .string ⟨#[]⟩]⟩) := by kernel_rfl
theorem z_193 : (Try.prog.info? 193).bind (·.zero) = some (.agg ⟨[.int .i64 0, .int .i64 0, .string ⟨#[]⟩, .string ⟨#[]⟩, .slice none 0 0, .slice none 0 0, .string ⟨#[]⟩]⟩) := by kernel_rfl
theorem z_194 : (Try.prog.info? 194).bind (·.zero) = some (.agg ⟨[.int .i64 0, .string ⟨#[]⟩, .bool false, .string ⟨#[]⟩, .slice none 0 0, .slice none 0 0, .slice none 0 0]⟩) := by kernel_rfl
theorem z_195 : (Try.prog.info? 195).bind (·.zero) = some (.agg ⟨[.int .i64 0, .string ⟨#[]⟩, .bool false, .string ⟨#[]⟩, .slice none 0 0, .slice none 0 0, .slice none 0 0]⟩) := by kernel_rfl
theorem z_198 : (Try.prog.info? 198).bind (·.zero) = some (.agg ⟨[.int .i64 0, .int .i64 0, .string ⟨#[]⟩, .string ⟨#[]⟩, .slice none 0 0, .slice none 0 0, .bool false]⟩) := by kernel_rfl
theorem z_199 : (Try.prog.info? 199).bind (·.zero) = some (.agg ⟨[.int .i64 0, .int .i64 0, .string ⟨#[]⟩, .string ⟨#[]⟩, .slice none 0 0, .slice none 0 0, .bool false]⟩) := by kernel_rfl
theorem z_200 : (Try.prog.info? 200).bind (·.zero) = some (.agg ⟨[.pointer none, .pointer none, .pointer none, .string ⟨#[]⟩]⟩) := by kernel_rfl
theorem z_201 : (Try.prog.info? 201).bind (·.zero) = some (.agg ⟨[.pointer none, .pointer none, .pointer none, .string ⟨#[]⟩]⟩) := by kernel_rfl
theorem z_205 : (Try.prog.info? 205).bind (·.zero) = some (.int .u8 0) := by kernel_rfl
theorem z_206 : (Try.prog.info? 206).bind (·.zero) = some (.int .u8 0) := by kernel_rfl
theorem z_208 : (Try.prog.info? 208).bind (·.zero) = some (.pointer none) := by kernel_rfl
theorem z_209 : (Try.prog.info? 209).bind (·.zero) = some (.int .i32 0) := by kernel_rfl
theorem z_210 : (Try.prog.info? 210).bind (·.zero) = some (.int .i32 0) := by kernel_rfl
theorem z_211 : (Try.prog.info? 211).bind (·.zero) = some (.agg ⟨[.int .u64 0, .int .u64 0, .int .u32 0, .int .u8 0, .int .u8 0, .int .u8 0, .int .u8 0, .nilFunc, .pointer none, .int .i32 0, .int .i32 0]⟩) := by kernel_rfl
theorem z_212 : (Try.prog.info? 212).bind (·.zero) = some (.agg ⟨[.int .u64 0, .int .u64 0, .int .u32 0, .int .u8 0, .int .u8 0, .int .u8 0, .int .u8 0, .nilFunc, .pointer none, .int .i32 0, .int .i32 0]⟩) := by kernel_rfl
theorem uk_2 : Try.prog.underlying 2 = some (.int .i64) := by kernel_rfl
theorem us_2 : (Try.prog.underlying 2).isSome = true := by kernel_rfl
theorem uk_3 : Try.prog.underlying 3 = some (.int .i64) := by kernel_rfl
theorem us_3 : (Try.prog.underlying 3).isSome = true := by kernel_rfl
theorem ub_4 : Try.prog.underlying 4 = some .bool := by kernel_rfl
theorem uk_5 : Try.prog.underlying 5 = some (.int .u8) := by kernel_rfl
theorem us_5 : (Try.prog.underlying 5).isSome = true := by kernel_rfl
theorem uk_6 : Try.prog.underlying 6 = some (.int .u8) := by kernel_rfl
theorem us_6 : (Try.prog.underlying 6).isSome = true := by kernel_rfl
theorem uk_9 : Try.prog.underlying 9 = some .string := by kernel_rfl
theorem us_9 : (Try.prog.underlying 9).isSome = true := by kernel_rfl
theorem uk_10 : Try.prog.underlying 10 = some .string := by kernel_rfl
theorem us_10 : (Try.prog.underlying 10).isSome = true := by kernel_rfl
theorem uk_11 : Try.prog.underlying 11 = some .string := by kernel_rfl
theorem us_11 : (Try.prog.underlying 11).isSome = true := by kernel_rfl
theorem uk_12 : Try.prog.underlying 12 = some (.int .u64) := by kernel_rfl
theorem us_12 : (Try.prog.underlying 12).isSome = true := by kernel_rfl
theorem up_15 : Try.prog.underlying 15 = some (.pointer 201) := by kernel_rfl
theorem up_16 : Try.prog.underlying 16 = some (.pointer 204) := by kernel_rfl
theorem up_17 : Try.prog.underlying 17 = some (.pointer 212) := by kernel_rfl
theorem uk_21 : Try.prog.underlying 21 = some (.int .i32) := by kernel_rfl
theorem us_21 : (Try.prog.underlying 21).isSome = true := by kernel_rfl
theorem us_22 : (Try.prog.underlying 22).isSome = true := by kernel_rfl
theorem ul_22 : Try.prog.underlying 22 = some (.slice 9) := by kernel_rfl
theorem us_23 : (Try.prog.underlying 23).isSome = true := by kernel_rfl
theorem ul_23 : Try.prog.underlying 23 = some (.slice 27) := by kernel_rfl
theorem up_28 : Try.prog.underlying 28 = some (.pointer 78) := by kernel_rfl
theorem uk_29 : Try.prog.underlying 29 = some (.int .i64) := by kernel_rfl
theorem us_29 : (Try.prog.underlying 29).isSome = true := by kernel_rfl
theorem up_36 : Try.prog.underlying 36 = some (.pointer 86) := by kernel_rfl
theorem us_45 : (Try.prog.underlying 45).isSome = true := by kernel_rfl
theorem ul_45 : Try.prog.underlying 45 = some (.slice 3) := by kernel_rfl
theorem us_46 : (Try.prog.underlying 46).isSome = true := by kernel_rfl
theorem ul_46 : Try.prog.underlying 46 = some (.slice 51) := by kernel_rfl
theorem us_47 : (Try.prog.underlying 47).isSome = true := by kernel_rfl
theorem ul_47 : Try.prog.underlying 47 = some (.slice 129) := by kernel_rfl
theorem us_48 : (Try.prog.underlying 48).isSome = true := by kernel_rfl
theorem ul_48 : Try.prog.underlying 48 = some (.slice 89) := by kernel_rfl
theorem us_49 : (Try.prog.underlying 49).isSome = true := by kernel_rfl
theorem ul_49 : Try.prog.underlying 49 = some (.slice 4) := by kernel_rfl
theorem uf_53 : Try.prog.underlying 53 = some (.complex .f64) := by kernel_rfl
theorem up_63 : Try.prog.underlying 63 = some (.pointer 103) := by kernel_rfl
theorem us_65 : (Try.prog.underlying 65).isSome = true := by kernel_rfl
theorem ul_65 : Try.prog.underlying 65 = some (.slice 109) := by kernel_rfl
theorem us_67 : (Try.prog.underlying 67).isSome = true := by kernel_rfl
theorem ul_67 : Try.prog.underlying 67 = some (.slice 120) := by kernel_rfl
theorem um_73 : Try.prog.underlying 73 = some (.map 9 3) := by kernel_rfl
theorem us_74 : (Try.prog.underlying 74).isSome = true := by kernel_rfl
theorem ul_74 : Try.prog.underlying 74 = some (.slice 83) := by kernel_rfl
theorem ua_75 : Try.prog.underlying 75 = some (.array 16 3) := by kernel_rfl
theorem ua_76 : Try.prog.underlying 76 = some (.array 16 75) := by kernel_rfl
theorem z_77 : (Try.prog.info? 77).bind (·.zero) = some (.agg ⟨[.slice none 0 0, .map none, .slice none 0 0, .slice none 0 0] ++ (arCells .i64 256 [] ++ (arCells .i64 256 [] ++ []))⟩) := by kernel_rfl
theorem z_78 : (Try.prog.info? 78).bind (·.zero) = some (.agg ⟨[.slice none 0 0, .map none, .slice none 0 0, .slice none 0 0] ++ (arCells .i64 256 [] ++ (arCells .i64 256 [] ++ []))⟩) := by kernel_rfl
theorem uk_82 : Try.prog.underlying 82 = some (.int .u32) := by kernel_rfl
theorem us_82 : (Try.prog.underlying 82).isSome = true := by kernel_rfl
theorem uk_83 : Try.prog.underlying 83 = some (.int .u32) := by kernel_rfl
theorem us_83 : (Try.prog.underlying 83).isSome = true := by kernel_rfl
theorem us_84 : (Try.prog.underlying 84).isSome = true := by kernel_rfl
theorem ul_84 : Try.prog.underlying 84 = some (.slice 49) := by kernel_rfl
theorem uf_99 : Try.prog.underlying 99 = some (.float .f64) := by kernel_rfl
theorem us_99 : (Try.prog.underlying 99).isSome = true := by kernel_rfl
theorem us_106 : (Try.prog.underlying 106).isSome = true := by kernel_rfl
theorem ul_106 : Try.prog.underlying 106 = some (.slice 112) := by kernel_rfl
theorem us_107 : (Try.prog.underlying 107).isSome = true := by kernel_rfl
theorem ul_107 : Try.prog.underlying 107 = some (.slice 117) := by kernel_rfl
theorem us_115 : (Try.prog.underlying 115).isSome = true := by kernel_rfl
theorem ul_115 : Try.prog.underlying 115 = some (.slice 190) := by kernel_rfl
theorem us_123 : (Try.prog.underlying 123).isSome = true := by kernel_rfl
theorem ul_123 : Try.prog.underlying 123 = some (.slice 135) := by kernel_rfl
theorem us_133 : (Try.prog.underlying 133).isSome = true := by kernel_rfl
theorem ul_133 : Try.prog.underlying 133 = some (.slice 142) := by kernel_rfl
theorem up_144 : Try.prog.underlying 144 = some (.pointer 109) := by kernel_rfl
theorem ua_146 : Try.prog.underlying 146 = some (.array 4 79) := by kernel_rfl
theorem up_149 : Try.prog.underlying 149 = some (.pointer 153) := by kernel_rfl
theorem us_151 : (Try.prog.underlying 151).isSome = true := by kernel_rfl
theorem ul_151 : Try.prog.underlying 151 = some (.slice 172) := by kernel_rfl
theorem uk_158 : Try.prog.underlying 158 = some (.int .u64) := by kernel_rfl
theorem us_158 : (Try.prog.underlying 158).isSome = true := by kernel_rfl
theorem uk_160 : Try.prog.underlying 160 = some (.int .u64) := by kernel_rfl
theorem us_160 : (Try.prog.underlying 160).isSome = true := by kernel_rfl
theorem up_163 : Try.prog.underlying 163 = some (.pointer 165) := by kernel_rfl
theorem us_184 : (Try.prog.underlying 184).isSome = true := by kernel_rfl
theorem ul_184 : Try.prog.underlying 184 = some (.slice 5) := by kernel_rfl
theorem us_186 : (Try.prog.underlying 186).isSome = true := by kernel_rfl
theorem ul_186 : Try.prog.underlying 186 = some (.slice 193) := by kernel_rfl
theorem us_187 : (Try.prog.underlying 187).isSome = true := by kernel_rfl
theorem ul_187 : Try.prog.underlying 187 = some (.slice 195) := by kernel_rfl
theorem us_188 : (Try.prog.underlying 188).isSome = true := by kernel_rfl
theorem ul_188 : Try.prog.underlying 188 = some (.slice 199) := by kernel_rfl
theorem ua_202 : Try.prog.underlying 202 = some (.array 0 16) := by kernel_rfl
theorem uk_205 : Try.prog.underlying 205 = some (.int .u8) := by kernel_rfl
theorem us_205 : (Try.prog.underlying 205).isSome = true := by kernel_rfl
theorem uk_206 : Try.prog.underlying 206 = some (.int .u8) := by kernel_rfl
theorem us_206 : (Try.prog.underlying 206).isSome = true := by kernel_rfl
theorem up_208 : Try.prog.underlying 208 = some (.pointer 5) := by kernel_rfl
theorem uk_209 : Try.prog.underlying 209 = some (.int .i32) := by kernel_rfl
theorem us_209 : (Try.prog.underlying 209).isSome = true := by kernel_rfl
theorem uk_210 : Try.prog.underlying 210 = some (.int .i32) := by kernel_rfl
theorem us_210 : (Try.prog.underlying 210).isSome = true := by kernel_rfl
end Go.Proofs.Ytliaopbgkcdibaa
