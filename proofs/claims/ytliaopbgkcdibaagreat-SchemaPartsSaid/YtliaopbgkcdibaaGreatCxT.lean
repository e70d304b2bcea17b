/- The tables of this seat's types (sizes, fields' places, elements), and that they are the program's. Written by tab.py. -/
import Derived.Test.YtliaopbgkcdibaaGreatProg
import Derived.Test.YtliaopbgkcdibaaGreatCxC
set_option maxRecDepth 100000
namespace Go.Proofs.YtliaopbgkcdibaaGreat
def tt : Tab where
  st := [(7, [(0, 1, false), (1, 1, false), (2, 1, false), (3, 1, false)]), (8, [(0, 1, false), (1, 1, false), (2, 1, false), (3, 1, false)]), (13, [(0, 1, false), (1, 1, false)]), (14, [(0, 1, false), (1, 1, false)]), (18, [(0, 1, false)]), (19, [(0, 1, false)]), (25, [(0, 1, false), (1, 1, false), (2, 1, false), (3, 1, false), (4, 1, false), (5, 1, false)]), (26, [(0, 1, false), (1, 1, false), (2, 1, false), (3, 1, false), (4, 1, false), (5, 1, false)]),
    (33, [(0, 1, false), (1, 1, false)]), (34, [(0, 1, false), (1, 1, false)]), (40, [(0, 1, false), (1, 1, false)]), (41, [(0, 1, false), (1, 1, false)]), (50, [(0, 1, false), (1, 1, false), (2, 1, false), (3, 1, false), (4, 1, false), (5, 1, false)]), (51, [(0, 1, false), (1, 1, false), (2, 1, false), (3, 1, false), (4, 1, false), (5, 1, false)]), (57, [(0, 1, false), (1, 1, false), (2, 1, false), (3, 1, false), (4, 1, false), (5, 1, false)]), (58, [(0, 1, false), (1, 1, false), (2, 1, false), (3, 1, false), (4, 1, false), (5, 1, false)]),
    (60, [(0, 1, false), (1, 1, false), (2, 1, false), (3, 1, false), (4, 1, false), (5, 1, false)]), (61, [(0, 1, false), (1, 1, false), (2, 1, false), (3, 1, false), (4, 1, false), (5, 1, false)]), (67, [(0, 1, false), (1, 1, false), (2, 1, false), (3, 1, false)]), (68, [(0, 1, false), (1, 1, false), (2, 1, false), (3, 1, false)]), (74, [(0, 1, false), (1, 1, false), (2, 1, false), (3, 1, false), (4, 1, false), (5, 1, false)]), (75, [(0, 1, false), (1, 1, false), (2, 1, false), (3, 1, false), (4, 1, false), (5, 1, false)]), (81, [(0, 1, false), (1, 1, false), (2, 1, false), (3, 1, false)]), (82, [(0, 1, false), (1, 1, false), (2, 1, false), (3, 1, false)]),
    (89, [(0, 1, false), (1, 1, false), (2, 1, false), (3, 1, false), (4, 256, true), (260, 256, true)]), (90, [(0, 1, false), (1, 1, false), (2, 1, false), (3, 1, false), (4, 256, true), (260, 256, true)]), (104, [(0, 1, false), (1, 1, false), (2, 1, false), (3, 1, false), (4, 1, false)]), (105, [(0, 1, false), (1, 1, false), (2, 1, false), (3, 1, false), (4, 1, false)]), (116, [(0, 1, false), (1, 1, false), (2, 1, false), (3, 1, false)]), (117, [(0, 1, false), (1, 1, false), (2, 1, false), (3, 1, false)]), (126, [(0, 1, false), (1, 1, false), (2, 1, false), (3, 1, false), (4, 1, false), (5, 1, false), (6, 1, false), (7, 1, false), (8, 1, false), (9, 1, false)]), (127, [(0, 1, false), (1, 1, false), (2, 1, false), (3, 1, false), (4, 1, false), (5, 1, false), (6, 1, false), (7, 1, false), (8, 1, false), (9, 1, false)]),
    (130, [(0, 1, false), (1, 1, false), (2, 1, false), (3, 1, false)]), (131, [(0, 1, false), (1, 1, false), (2, 1, false), (3, 1, false)]), (142, [(0, 6, true), (6, 1, false)]), (143, [(0, 6, true), (6, 1, false)]), (144, [(0, 6, true), (6, 1, false)]), (145, [(0, 6, true), (6, 1, false)]), (147, [(0, 1, false), (1, 1, false), (2, 1, false), (3, 1, false), (4, 1, false), (5, 1, false), (6, 1, false)]), (148, [(0, 1, false), (1, 1, false), (2, 1, false), (3, 1, false), (4, 1, false), (5, 1, false), (6, 1, false)]),
    (162, [(0, 1, false), (1, 1, false), (2, 1, false), (3, 1, false)]), (163, [(0, 1, false), (1, 1, false), (2, 1, false), (3, 1, false)]), (173, [(0, 1, false), (1, 1, false), (2, 1, false), (3, 1, false), (4, 1, false), (5, 1, false), (6, 1, false), (7, 1, false), (8, 1, false), (9, 1, false), (10, 1, false)]), (174, [(0, 1, false), (1, 1, false), (2, 1, false), (3, 1, false), (4, 1, false), (5, 1, false), (6, 1, false), (7, 1, false), (8, 1, false), (9, 1, false), (10, 1, false)])]
  ty := [(1, 1, false), (2, 1, false), (3, 1, false), (4, 1, false), (5, 1, false), (6, 1, false), (7, 4, true), (8, 4, true),
    (9, 1, false), (10, 1, false), (11, 1, false), (12, 1, false), (13, 2, true), (14, 2, true), (15, 1, false), (16, 1, false),
    (17, 1, false), (18, 1, true), (19, 1, true), (20, 1, false), (21, 1, false), (22, 1, false), (23, 1, false), (24, 1, false),
    (25, 6, true), (26, 6, true), (27, 1, false), (28, 1, false), (29, 1, false), (30, 1, false), (32, 1, false), (33, 2, true),
    (34, 2, true), (35, 1, false), (36, 1, false), (37, 1, false), (38, 1, false), (39, 1, false), (40, 2, true), (41, 2, true),
    (43, 1, false), (44, 1, false), (45, 1, false), (46, 1, false), (47, 1, false), (48, 1, false), (49, 1, false), (50, 6, true),
    (51, 6, true), (52, 1, false), (53, 1, false), (55, 1, false), (56, 1, false), (57, 6, true), (58, 6, true), (59, 1, false),
    (60, 6, true), (61, 6, true), (62, 1, false), (64, 1, false), (65, 1, false), (66, 1, false), (67, 4, true), (68, 4, true),
    (69, 1, false), (70, 1, false), (71, 1, false), (72, 1, false), (73, 1, false), (74, 6, true), (75, 6, true), (76, 1, false),
    (77, 1, false), (78, 1, false), (79, 1, false), (80, 1, false), (81, 4, true), (82, 4, true), (84, 1, false), (85, 1, false),
    (86, 1, false), (87, 16, true), (88, 256, true), (89, 516, true), (90, 516, true), (91, 1, false), (92, 1, false), (93, 1, false),
    (94, 1, false), (95, 1, false), (96, 4, true), (97, 1, false), (98, 1, false), (99, 1, false), (100, 1, false), (101, 1, false),
    (102, 1, false), (103, 1, false), (104, 5, true), (105, 5, true), (106, 1, false), (108, 1, false), (109, 1, false), (110, 1, false),
    (111, 1, false), (112, 1, false), (113, 1, false), (114, 1, false), (115, 1, false), (116, 4, true), (117, 4, true), (118, 1, false),
    (119, 1, false), (120, 1, false), (121, 1, false), (122, 1, false), (123, 1, false), (124, 1, false), (125, 1, false), (126, 10, true),
    (127, 10, true), (129, 1, false), (130, 4, true), (131, 4, true), (132, 1, false), (133, 1, false), (134, 1, false), (135, 1, false),
    (136, 1, false), (137, 1, false), (138, 1, false), (139, 1, false), (140, 1, false), (141, 1, false), (142, 7, true), (143, 7, true),
    (144, 7, true), (145, 7, true), (146, 1, false), (147, 7, true), (148, 7, true), (149, 1, false), (151, 1, false), (152, 1, false),
    (153, 1, false), (155, 1, false), (156, 1, false), (157, 1, false), (158, 1, false), (159, 1, false), (160, 1, false), (161, 1, false),
    (162, 4, true), (163, 4, true), (167, 1, false), (168, 1, false), (169, 1, false), (170, 1, false), (171, 1, false), (172, 1, false),
    (173, 11, true), (174, 11, true), (175, 1, false)]
  sl := [(22, 9, 1, false), (23, 34, 2, true), (24, 61, 6, true), (36, 51, 6, true), (38, 41, 2, true), (47, 68, 4, true), (48, 3, 1, false), (49, 75, 6, true),
    (59, 82, 4, true), (73, 127, 10, true), (86, 110, 1, false), (103, 131, 4, true), (123, 143, 7, true), (124, 148, 7, true), (125, 145, 7, true), (157, 5, 1, false)]
  ik := [(2, .i64), (3, .i64), (5, .u8), (6, .u8), (12, .u64), (21, .i32), (30, .i64), (109, .u32),
    (110, .u32), (167, .u8), (168, .u8), (171, .i32), (172, .i32)]
  lt := [9, 10, 11]
theorem tt_ok : tt.Ok Tryz.prog := Tab.ok_of (by kernel_rfl) (by kernel_rfl) (by kernel_rfl) (by kernel_rfl) (by kernel_rfl)
theorem mixed : Tryz.prog.follows .mixedOrders = true := by kernel_rfl
theorem z_2 : (Tryz.prog.info? 2).bind (·.zero) = some (.int .i64 0) := by kernel_rfl
theorem z_3 : (Tryz.prog.info? 3).bind (·.zero) = some (.int .i64 0) := by kernel_rfl
theorem z_4 : (Tryz.prog.info? 4).bind (·.zero) = some (.bool false) := by kernel_rfl
theorem z_5 : (Tryz.prog.info? 5).bind (·.zero) = some (.int .u8 0) := by kernel_rfl
theorem z_6 : (Tryz.prog.info? 6).bind (·.zero) = some (.int .u8 0) := by kernel_rfl
theorem z_7 : (Tryz.prog.info? 7).bind (·.zero) = some (.agg ⟨[.int .i64 0, .int .i64 0, .bool false, .int .u8 0]⟩) := by kernel_rfl
theorem z_8 : (Tryz.prog.info? 8).bind (·.zero) = some (.agg ⟨[.int .i64 0, .int .i64 0, .bool false, .int .u8 0]⟩) := by kernel_rfl
theorem z_9 : (Tryz.prog.info? 9).bind (·.zero) = some (.string ⟨#[]⟩) := by kernel_rfl
theorem z_10 : (Tryz.prog.info? 10).bind (·.zero) = some (.string ⟨#[]⟩) := by kernel_rfl
theorem z_11 : (Tryz.prog.info? 11).bind (·.zero) = some (.string ⟨#[]⟩) := by kernel_rfl
theorem z_12 : (Tryz.prog.info? 12).bind (·.zero) = some (.int .u64 0) := by kernel_rfl
theorem z_13 : (Tryz.prog.info? 13).bind (·.zero) = some (.agg ⟨[.string ⟨#[]⟩, .int .u64 0]⟩) := by kernel_rfl
theorem z_14 : (Tryz.prog.info? 14).bind (·.zero) = some (.agg ⟨[.string ⟨#[]⟩, .int .u64 0]⟩) := by kernel_rfl
theorem z_15 : (Tryz.prog.info? 15).bind (·.zero) = some (.pointer none) := by kernel_rfl
theorem z_16 : (Tryz.prog.info? 16).bind (·.zero) = some (.pointer none) := by kernel_rfl
theorem z_17 : (Tryz.prog.info? 17).bind (·.zero) = some (.pointer none) := by kernel_rfl
theorem z_18 : (Tryz.prog.info? 18).bind (·.zero) = some (.agg ⟨[.pointer none]⟩) := by kernel_rfl
theorem z_19 : (Tryz.prog.info? 19).bind (·.zero) = some (.agg ⟨[.pointer none]⟩) := by kernel_rfl
theorem z_21 : (Tryz.prog.info? 21).bind (·.zero) = some (.int .i32 0) := by kernel_rfl
theorem z_22 : (Tryz.prog.info? 22).bind (·.zero) = some (.slice none 0 0) := by kernel_rfl
theorem z_23 : (Tryz.prog.info? 23).bind (·.zero) = some (.slice none 0 0) := by kernel_rfl
theorem z_24 : (Tryz.prog.info? 24).bind (·.zero) = some (.slice none 0 0) := by kernel_rfl
theorem z_25 : (Tryz.prog.info? 25).bind (·.zero) = some (.agg ⟨[.slice none 0 0, .slice none 0 0, .slice none 0 0, .slice none 0 0, .slice none 0 0, .int .i64 0]⟩) := by kernel_rfl
theorem z_26 : (Tryz.prog.info? 26).bind (·.zero) = some (.agg ⟨[.slice none 0 0, .slice none 0 0, .slice none 0 0, .slice none 0 0, .slice none 0 0, .int .i64 0]⟩) := by kernel_rfl
theorem z_29 : (Tryz.prog.info? 29).bind (·.zero) = some (.pointer none) := by kernel_rfl
theorem z_30 : (Tryz.prog.info? 30).bind (·.zero) = some (.int .i64 0) := by kernel_rfl
theorem z_33 : (Tryz.prog.info? 33).bind (·.zero) = some (.agg ⟨[.string ⟨#[]⟩, .string ⟨#[]⟩]⟩) := by kernel_rfl
theorem z_34 : (Tryz.prog.info? 34).bind (·.zero) = some (.agg ⟨[.string ⟨#[]⟩, .string ⟨#[]⟩]⟩) := by kernel_rfl
theorem z_36 : (Tryz.prog.info? 36).bind (·.zero) = some (.slice none 0 0) := by kernel_rfl
theorem z_38 : (Tryz.prog.info? 38).bind (·.zero) = some (.slice none 0 0) := by kernel_rfl
theorem z_40 : (Tryz.prog.info? 40).bind (·.zero) = some (.agg ⟨[.string ⟨#[]⟩, .int .i64 0]⟩) := by kernel_rfl
theorem z_41 : (Tryz.prog.info? 41).bind (·.zero) = some (.agg ⟨[.string ⟨#[]⟩, .int .i64 0]⟩) := by kernel_rfl
theorem z_47 : (Tryz.prog.info? 47).bind (·.zero) = some (.slice none 0 0) := by kernel_rfl
theorem z_48 : (Tryz.prog.info? 48).bind (·.zero) = some (.slice none 0 0) := by kernel_rfl
theorem z_49 : (Tryz.prog.info? 49).bind (·.zero) = some (.slice none 0 0) := by kernel_rfl
theorem z_50 : (Tryz.prog.info? 50).bind (·.zero) = some (.agg ⟨[.string ⟨#[]⟩, .int .i64 0, .slice none 0 0, .slice none 0 0, .int .i64 0, .slice none 0 0]⟩) := by kernel_rfl
theorem z_51 : (Tryz.prog.info? 51).bind (·.zero) = some (.agg ⟨[.string ⟨#[]⟩, .int .i64 0, .slice none 0 0, .slice none 0 0, .int .i64 0, .slice none 0 0]⟩) := by kernel_rfl
theorem z_53 : (Tryz.prog.info? 53).bind (·.zero) = some (.pointer none) := by kernel_rfl
theorem z_56 : (Tryz.prog.info? 56).bind (·.zero) = some (.map none) := by kernel_rfl
theorem z_57 : (Tryz.prog.info? 57).bind (·.zero) = some (.agg ⟨[.pointer none, .slice none 0 0, .map none, .slice none 0 0, .slice none 0 0, .int .i64 0]⟩) := by kernel_rfl
theorem z_58 : (Tryz.prog.info? 58).bind (·.zero) = some (.agg ⟨[.pointer none, .slice none 0 0, .map none, .slice none 0 0, .slice none 0 0, .int .i64 0]⟩) := by kernel_rfl
theorem z_59 : (Tryz.prog.info? 59).bind (·.zero) = some (.slice none 0 0) := by kernel_rfl
theorem z_60 : (Tryz.prog.info? 60).bind (·.zero) = some (.agg ⟨[.string ⟨#[]⟩, .string ⟨#[]⟩, .slice none 0 0, .slice none 0 0, .string ⟨#[]⟩, .slice none 0 0]⟩) := by kernel_rfl
theorem z_61 : (Tryz.prog.info? 61).bind (·.zero) = some (.agg ⟨[.string ⟨#[]⟩, .string ⟨#[]⟩, .slice none 0 0, .slice none 0 0, .string ⟨#[]⟩, .slice none 0 0]⟩) := by kernel_rfl
theorem z_67 : (Tryz.prog.info? 67).bind (·.zero) = some (.agg ⟨[.string ⟨#[]⟩, .int .i64 0, .bool false, .int .i64 0]⟩) := by kernel_rfl
theorem z_68 : (Tryz.prog.info? 68).bind (·.zero) = some (.agg ⟨[.string ⟨#[]⟩, .int .i64 0, .bool false, .int .i64 0]⟩) := by kernel_rfl
theorem z_73 : (Tryz.prog.info? 73).bind (·.zero) = some (.slice none 0 0) := by kernel_rfl
theorem z_74 : (Tryz.prog.info? 74).bind (·.zero) = some (.agg ⟨[.int .i64 0, .int .i64 0, .string ⟨#[]⟩, .string ⟨#[]⟩, .slice none 0 0, .slice none 0 0]⟩) := by kernel_rfl
theorem z_75 : (Tryz.prog.info? 75).bind (·.zero) = some (.agg ⟨[.int .i64 0, .int .i64 0, .string ⟨#[]⟩, .string ⟨#[]⟩, .slice none 0 0, .slice none 0 0]⟩) := by kernel_rfl
theorem z_81 : (Tryz.prog.info? 81).bind (·.zero) = some (.agg ⟨[.string ⟨#[]⟩, .int .i64 0, .bool false, .string ⟨#[]⟩]⟩) := by kernel_rfl
theorem z_82 : (Tryz.prog.info? 82).bind (·.zero) = some (.agg ⟨[.string ⟨#[]⟩, .int .i64 0, .bool false, .string ⟨#[]⟩]⟩) := by kernel_rfl
theorem z_86 : (Tryz.prog.info? 86).bind (·.zero) = some (.slice none 0 0) := by kernel_rfl
theorem z_87 : (Tryz.prog.info? 87).bind (·.zero) = some (.agg ⟨[.int .i64 0, .int .i64 0, .int .i64 0, .int .i64 0, .int .i64 0, .int .i64 0, .int .i64 0, .int .i64 0, .int .i64 0, .int .i64 0, .int .i64 0, .int .i64 0, .int .i64 0, .int .i64 0, .int .i64 0, .int .i64 0]⟩) := by kernel_rfl
theorem z_94 : (Tryz.prog.info? 94).bind (·.zero) = some (.pointer none) := by kernel_rfl
theorem z_96 : (Tryz.prog.info? 96).bind (·.zero) = some (.agg ⟨[.nilFunc, .nilFunc, .nilFunc, .nilFunc]⟩) := by kernel_rfl
theorem z_101 : (Tryz.prog.info? 101).bind (·.zero) = some (.pointer none) := by kernel_rfl
theorem z_103 : (Tryz.prog.info? 103).bind (·.zero) = some (.slice none 0 0) := by kernel_rfl
theorem z_104 : (Tryz.prog.info? 104).bind (·.zero) = some (.agg ⟨[.slice none 0 0, .int .i64 0, .int .i64 0, .int .i64 0, .int .i64 0]⟩) := by kernel_rfl
theorem z_105 : (Tryz.prog.info? 105).bind (·.zero) = some (.agg ⟨[.slice none 0 0, .int .i64 0, .int .i64 0, .int .i64 0, .int .i64 0]⟩) := by kernel_rfl
theorem z_109 : (Tryz.prog.info? 109).bind (·.zero) = some (.int .u32 0) := by kernel_rfl
theorem z_110 : (Tryz.prog.info? 110).bind (·.zero) = some (.int .u32 0) := by kernel_rfl
theorem z_115 : (Tryz.prog.info? 115).bind (·.zero) = some (.pointer none) := by kernel_rfl
theorem z_116 : (Tryz.prog.info? 116).bind (·.zero) = some (.agg ⟨[.string ⟨#[]⟩, .map none, .pointer none, .slice none 0 0]⟩) := by kernel_rfl
theorem z_117 : (Tryz.prog.info? 117).bind (·.zero) = some (.agg ⟨[.string ⟨#[]⟩, .map none, .pointer none, .slice none 0 0]⟩) := by kernel_rfl
theorem z_123 : (Tryz.prog.info? 123).bind (·.zero) = some (.slice none 0 0) := by kernel_rfl
theorem z_124 : (Tryz.prog.info? 124).bind (·.zero) = some (.slice none 0 0) := by kernel_rfl
theorem z_125 : (Tryz.prog.info? 125).bind (·.zero) = some (.slice none 0 0) := by kernel_rfl
theorem z_126 : (Tryz.prog.info? 126).bind (·.zero) = some (.agg ⟨[.int .i64 0, .bool false, .slice none 0 0, .slice none 0 0, .slice none 0 0, .slice none 0 0, .slice none 0 0, .slice none 0 0, .int .i64 0, .slice none 0 0]⟩) := by kernel_rfl
theorem z_127 : (Tryz.prog.info? 127).bind (·.zero) = some (.agg ⟨[.int .i64 0, .bool false, .slice none 0 0, .slice none 0 0, .slice none 0 0, .slice none 0 0, .slice none 0 0, .slice none 0 0, .int .i64 0, .slice none 0 0]⟩) := by kernel_rfl
theorem z_130 : (Tryz.prog.info? 130).bind (·.zero) = some (.agg ⟨[.int .i64 0, .string ⟨#[]⟩, .int .i64 0, .int .i64 0]⟩) := by kernel_rfl
theorem z_131 : (Tryz.prog.info? 131).bind (·.zero) = some (.agg ⟨[.int .i64 0, .string ⟨#[]⟩, .int .i64 0, .int .i64 0]⟩) := by kernel_rfl
theorem z_142 : (Tryz.prog.info? 142).bind (·.zero) = some (.agg ⟨[.int .i64 0, .int .i64 0, .string ⟨#[]⟩, .string ⟨#[]⟩, .slice none 0 0, .slice none 0 0, .string ⟨#[]⟩]⟩) := by kernel_rfl
theorem z_143 : (Tryz.prog.info? 143).bind (·.zero) = some (.agg ⟨[.int .i64 0, .int .i64 0, .string ⟨#[]⟩, .string ⟨#[]⟩, .slice none 0 0, .slice none 0 0, .string ⟨#[]⟩]⟩) := by kernel_rfl
theorem z_144 : (Tryz.prog.info? 144).bind (·.zero) = some (.agg ⟨[.int .i64 0, .int .i64 0, .string ⟨#[]⟩, .string ⟨#[]⟩, .slice none 0 0, .slice none 0 0, .bool false]⟩) := by kernel_rfl
theorem z_145 : (Tryz.prog.info? 145).bind (·.zero) = some (.agg ⟨[.int .i64 0, .int .i64 0, .string ⟨#[]⟩, .string ⟨#[]⟩, .slice none 0 0, .slice none 0 0, .bool false]⟩) := by kernel_rfl
theorem z_147 : (Tryz.prog.info? 147).bind (·.zero) = some (.agg ⟨[.int .i64 0, .string ⟨#[]⟩, .bool false, .string ⟨#[]⟩, .slice none 0 0, .slice none 0 0, .slice none 0 0]⟩) := by kernel_rfl
theorem z_148 : (Tryz.prog.info? 148).bind (·.zero) = some (.agg ⟨[.int .i64 0, .string ⟨#[]⟩, .bool false, .string ⟨#[]⟩, .slice none 0 0, .slice none 0 0, .slice none 0 0]⟩) := by kernel_rfl
theorem z_157 : (Tryz.prog.info? 157).bind (·.zero) = some (.slice none 0 0) := by kernel_rfl
theorem z_162 : (Tryz.prog.info? 162).bind (·.zero) = some (.agg ⟨[.pointer none, .pointer none, .pointer none, .string ⟨#[]⟩]⟩) := by kernel_rfl
theorem z_163 : (Tryz.prog.info? 163).bind (·.zero) = some (.agg ⟨[.pointer none, .pointer none, .pointer none, .string ⟨#[]⟩]⟩) := by kernel_rfl
theorem z_167 : (Tryz.prog.info? 167).bind (·.zero) = some (.int .u8 0) := by kernel_rfl
theorem z_168 : (Tryz.prog.info? 168).bind (·.zero) = some (.int .u8 0) := by kernel_rfl
theorem z_170 : (Tryz.prog.info? 170).bind (·.zero) = some (.pointer none) := by kernel_rfl
theorem z_171 : (Tryz.prog.info? 171).bind (·.zero) = some (.int .i32 0) := by kernel_rfl
theorem z_172 : (Tryz.prog.info? 172).bind (·.zero) = some (.int .i32 0) := by kernel_rfl
theorem z_173 : (Tryz.prog.info? 173).bind (·.zero) = some (.agg ⟨[.int .u64 0, .int .u64 0, .int .u32 0, .int .u8 0, .int .u8 0, .int .u8 0, .int .u8 0, .nilFunc, .pointer none, .int .i32 0, .int .i32 0]⟩) := by kernel_rfl
theorem z_174 : (Tryz.prog.info? 174).bind (·.zero) = some (.agg ⟨[.int .u64 0, .int .u64 0, .int .u32 0, .int .u8 0, .int .u8 0, .int .u8 0, .int .u8 0, .nilFunc, .pointer none, .int .i32 0, .int .i32 0]⟩) := by kernel_rfl
theorem uk_2 : Tryz.prog.underlying 2 = some (.int .i64) := by kernel_rfl
theorem us_2 : (Tryz.prog.underlying 2).isSome = true := by kernel_rfl
theorem uk_3 : Tryz.prog.underlying 3 = some (.int .i64) := by kernel_rfl
theorem us_3 : (Tryz.prog.underlying 3).isSome = true := by kernel_rfl
theorem ub_4 : Tryz.prog.underlying 4 = some .bool := by kernel_rfl
theorem uk_5 : Tryz.prog.underlying 5 = some (.int .u8) := by kernel_rfl
theorem us_5 : (Tryz.prog.underlying 5).isSome = true := by kernel_rfl
theorem uk_6 : Tryz.prog.underlying 6 = some (.int .u8) := by kernel_rfl
theorem us_6 : (Tryz.prog.underlying 6).isSome = true := by kernel_rfl
theorem uk_9 : Tryz.prog.underlying 9 = some .string := by kernel_rfl
theorem us_9 : (Tryz.prog.underlying 9).isSome = true := by kernel_rfl
theorem uk_10 : Tryz.prog.underlying 10 = some .string := by kernel_rfl
theorem us_10 : (Tryz.prog.underlying 10).isSome = true := by kernel_rfl
theorem uk_11 : Tryz.prog.underlying 11 = some .string := by kernel_rfl
theorem us_11 : (Tryz.prog.underlying 11).isSome = true := by kernel_rfl
theorem uk_12 : Tryz.prog.underlying 12 = some (.int .u64) := by kernel_rfl
theorem us_12 : (Tryz.prog.underlying 12).isSome = true := by kernel_rfl
theorem up_15 : Tryz.prog.underlying 15 = some (.pointer 163) := by kernel_rfl
theorem up_16 : Tryz.prog.underlying 16 = some (.pointer 166) := by kernel_rfl
theorem up_17 : Tryz.prog.underlying 17 = some (.pointer 174) := by kernel_rfl
theorem uk_21 : Tryz.prog.underlying 21 = some (.int .i32) := by kernel_rfl
theorem us_21 : (Tryz.prog.underlying 21).isSome = true := by kernel_rfl
theorem us_22 : (Tryz.prog.underlying 22).isSome = true := by kernel_rfl
theorem ul_22 : Tryz.prog.underlying 22 = some (.slice 9) := by kernel_rfl
theorem us_23 : (Tryz.prog.underlying 23).isSome = true := by kernel_rfl
theorem ul_23 : Tryz.prog.underlying 23 = some (.slice 34) := by kernel_rfl
theorem us_24 : (Tryz.prog.underlying 24).isSome = true := by kernel_rfl
theorem ul_24 : Tryz.prog.underlying 24 = some (.slice 61) := by kernel_rfl
theorem up_29 : Tryz.prog.underlying 29 = some (.pointer 58) := by kernel_rfl
theorem uk_30 : Tryz.prog.underlying 30 = some (.int .i64) := by kernel_rfl
theorem us_30 : (Tryz.prog.underlying 30).isSome = true := by kernel_rfl
theorem us_36 : (Tryz.prog.underlying 36).isSome = true := by kernel_rfl
theorem ul_36 : Tryz.prog.underlying 36 = some (.slice 51) := by kernel_rfl
theorem us_38 : (Tryz.prog.underlying 38).isSome = true := by kernel_rfl
theorem ul_38 : Tryz.prog.underlying 38 = some (.slice 41) := by kernel_rfl
theorem us_47 : (Tryz.prog.underlying 47).isSome = true := by kernel_rfl
theorem ul_47 : Tryz.prog.underlying 47 = some (.slice 68) := by kernel_rfl
theorem us_48 : (Tryz.prog.underlying 48).isSome = true := by kernel_rfl
theorem ul_48 : Tryz.prog.underlying 48 = some (.slice 3) := by kernel_rfl
theorem us_49 : (Tryz.prog.underlying 49).isSome = true := by kernel_rfl
theorem ul_49 : Tryz.prog.underlying 49 = some (.slice 75) := by kernel_rfl
theorem up_53 : Tryz.prog.underlying 53 = some (.pointer 90) := by kernel_rfl
theorem um_56 : Tryz.prog.underlying 56 = some (.map 9 3) := by kernel_rfl
theorem us_59 : (Tryz.prog.underlying 59).isSome = true := by kernel_rfl
theorem ul_59 : Tryz.prog.underlying 59 = some (.slice 82) := by kernel_rfl
theorem us_73 : (Tryz.prog.underlying 73).isSome = true := by kernel_rfl
theorem ul_73 : Tryz.prog.underlying 73 = some (.slice 127) := by kernel_rfl
theorem us_86 : (Tryz.prog.underlying 86).isSome = true := by kernel_rfl
theorem ul_86 : Tryz.prog.underlying 86 = some (.slice 110) := by kernel_rfl
theorem ua_87 : Tryz.prog.underlying 87 = some (.array 16 3) := by kernel_rfl
theorem ua_88 : Tryz.prog.underlying 88 = some (.array 16 87) := by kernel_rfl
theorem z_89 : (Tryz.prog.info? 89).bind (·.zero) = some (.agg ⟨[.slice none 0 0, .map none, .slice none 0 0, .slice none 0 0] ++ (arCells .i64 256 [] ++ (arCells .i64 256 [] ++ []))⟩) := by kernel_rfl
theorem z_90 : (Tryz.prog.info? 90).bind (·.zero) = some (.agg ⟨[.slice none 0 0, .map none, .slice none 0 0, .slice none 0 0] ++ (arCells .i64 256 [] ++ (arCells .i64 256 [] ++ []))⟩) := by kernel_rfl
theorem up_94 : Tryz.prog.underlying 94 = some (.pointer 51) := by kernel_rfl
theorem ua_96 : Tryz.prog.underlying 96 = some (.array 4 91) := by kernel_rfl
theorem up_101 : Tryz.prog.underlying 101 = some (.pointer 105) := by kernel_rfl
theorem us_103 : (Tryz.prog.underlying 103).isSome = true := by kernel_rfl
theorem ul_103 : Tryz.prog.underlying 103 = some (.slice 131) := by kernel_rfl
theorem uk_109 : Tryz.prog.underlying 109 = some (.int .u32) := by kernel_rfl
theorem us_109 : (Tryz.prog.underlying 109).isSome = true := by kernel_rfl
theorem uk_110 : Tryz.prog.underlying 110 = some (.int .u32) := by kernel_rfl
theorem us_110 : (Tryz.prog.underlying 110).isSome = true := by kernel_rfl
theorem up_115 : Tryz.prog.underlying 115 = some (.pointer 117) := by kernel_rfl
theorem us_123 : (Tryz.prog.underlying 123).isSome = true := by kernel_rfl
theorem ul_123 : Tryz.prog.underlying 123 = some (.slice 143) := by kernel_rfl
theorem us_124 : (Tryz.prog.underlying 124).isSome = true := by kernel_rfl
theorem ul_124 : Tryz.prog.underlying 124 = some (.slice 148) := by kernel_rfl
theorem us_125 : (Tryz.prog.underlying 125).isSome = true := by kernel_rfl
theorem ul_125 : Tryz.prog.underlying 125 = some (.slice 145) := by kernel_rfl
theorem us_157 : (Tryz.prog.underlying 157).isSome = true := by kernel_rfl
theorem ul_157 : Tryz.prog.underlying 157 = some (.slice 5) := by kernel_rfl
theorem ua_164 : Tryz.prog.underlying 164 = some (.array 0 16) := by kernel_rfl
theorem uk_167 : Tryz.prog.underlying 167 = some (.int .u8) := by kernel_rfl
theorem us_167 : (Tryz.prog.underlying 167).isSome = true := by kernel_rfl
theorem uk_168 : Tryz.prog.underlying 168 = some (.int .u8) := by kernel_rfl
theorem us_168 : (Tryz.prog.underlying 168).isSome = true := by kernel_rfl
theorem up_170 : Tryz.prog.underlying 170 = some (.pointer 5) := by kernel_rfl
theorem uk_171 : Tryz.prog.underlying 171 = some (.int .i32) := by kernel_rfl
theorem us_171 : (Tryz.prog.underlying 171).isSome = true := by kernel_rfl
theorem uk_172 : Tryz.prog.underlying 172 = some (.int .i32) := by kernel_rfl
theorem us_172 : (Tryz.prog.underlying 172).isSome = true := by kernel_rfl
end Go.Proofs.YtliaopbgkcdibaaGreat
