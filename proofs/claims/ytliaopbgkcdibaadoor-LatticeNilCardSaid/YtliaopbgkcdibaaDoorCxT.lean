/- The tables of this seat's types (sizes, fields' places, elements), and that they are the program's. Written by tab.py. -/
import Derived.Test.YtliaopbgkcdibaaDoorProg
import Derived.Test.YtliaopbgkcdibaaDoorCxC
set_option maxRecDepth 100000
namespace Go.Proofs.YtliaopbgkcdibaaDoor
def tt : Tab where
  st := [(7, [(0, 1, false), (1, 1, false), (2, 1, false), (3, 1, false)]), (8, [(0, 1, false), (1, 1, false), (2, 1, false), (3, 1, false)]), (13, [(0, 1, false), (1, 1, false)]), (14, [(0, 1, false), (1, 1, false)]), (18, [(0, 1, false)]), (19, [(0, 1, false)]), (44, [(0, 1, false), (1, 1, false)]), (45, [(0, 1, false), (1, 1, false)]),
    (53, [(0, 1, false), (1, 1, false), (2, 1, false), (3, 1, false), (4, 256, true), (260, 256, true)]), (54, [(0, 1, false), (1, 1, false), (2, 1, false), (3, 1, false), (4, 256, true), (260, 256, true)]), (59, [(0, 1, false), (1, 1, false)]), (60, [(0, 1, false), (1, 1, false)]), (70, [(0, 1, false), (1, 1, false), (2, 1, false), (3, 1, false)]), (71, [(0, 1, false), (1, 1, false), (2, 1, false), (3, 1, false)]), (81, [(0, 1, false), (1, 1, false), (2, 1, false), (3, 1, false), (4, 1, false), (5, 1, false), (6, 1, false), (7, 1, false), (8, 1, false), (9, 1, false), (10, 1, false)]), (82, [(0, 1, false), (1, 1, false), (2, 1, false), (3, 1, false), (4, 1, false), (5, 1, false), (6, 1, false), (7, 1, false), (8, 1, false), (9, 1, false), (10, 1, false)])]
  ty := [(2, 1, false), (3, 1, false), (4, 1, false), (5, 1, false), (6, 1, false), (7, 4, true), (8, 4, true), (9, 1, false),
    (10, 1, false), (11, 1, false), (12, 1, false), (13, 2, true), (14, 2, true), (15, 1, false), (16, 1, false), (17, 1, false),
    (18, 1, true), (19, 1, true), (20, 1, false), (21, 1, false), (22, 1, false), (23, 1, false), (26, 1, false), (27, 1, false),
    (30, 1, false), (36, 1, false), (44, 2, true), (45, 2, true), (49, 1, false), (50, 1, false), (51, 16, true), (52, 256, true),
    (53, 516, true), (54, 516, true), (58, 1, false), (59, 2, true), (60, 2, true), (61, 1, false), (63, 1, false), (64, 1, false),
    (67, 32, true), (68, 1, false), (70, 4, true), (71, 4, true), (75, 1, false), (76, 1, false), (78, 1, false), (79, 1, false),
    (80, 1, false), (81, 11, true), (82, 11, true), (83, 1, false)]
  sl := [(22, 9, 1, false), (23, 45, 2, true), (36, 3, 1, false), (50, 64, 1, false), (58, 61, 1, false), (61, 4, 1, false)]
  ik := [(2, .i64), (3, .i64), (5, .u8), (6, .u8), (12, .u64), (21, .i32), (27, .i64), (63, .u32),
    (64, .u32), (68, .u64), (75, .u8), (76, .u8), (79, .i32), (80, .i32)]
  lt := [9, 10, 11]
theorem tt_ok : tt.Ok Tryd.prog := Tab.ok_of (by kernel_rfl) (by kernel_rfl) (by kernel_rfl) (by kernel_rfl) (by kernel_rfl)
theorem mixed : Tryd.prog.follows .mixedOrders = true := by kernel_rfl
theorem z_2 : (Tryd.prog.info? 2).bind (·.zero) = some (.int .i64 0) := by kernel_rfl
theorem z_3 : (Tryd.prog.info? 3).bind (·.zero) = some (.int .i64 0) := by kernel_rfl
theorem z_4 : (Tryd.prog.info? 4).bind (·.zero) = some (.bool false) := by kernel_rfl
theorem z_5 : (Tryd.prog.info? 5).bind (·.zero) = some (.int .u8 0) := by kernel_rfl
theorem z_6 : (Tryd.prog.info? 6).bind (·.zero) = some (.int .u8 0) := by kernel_rfl
theorem z_7 : (Tryd.prog.info? 7).bind (·.zero) = some (.agg ⟨[.int .i64 0, .int .i64 0, .bool false, .int .u8 0]⟩) := by kernel_rfl
theorem z_8 : (Tryd.prog.info? 8).bind (·.zero) = some (.agg ⟨[.int .i64 0, .int .i64 0, .bool false, .int .u8 0]⟩) := by kernel_rfl
theorem z_9 : (Tryd.prog.info? 9).bind (·.zero) = some (.string ⟨#[]⟩) := by kernel_rfl
theorem z_10 : (Tryd.prog.info? 10).bind (·.zero) = some (.string ⟨#[]⟩) := by kernel_rfl
theorem z_11 : (Tryd.prog.info? 11).bind (·.zero) = some (.string ⟨#[]⟩) := by kernel_rfl
theorem z_12 : (Tryd.prog.info? 12).bind (·.zero) = some (.int .u64 0) := by kernel_rfl
theorem z_13 : (Tryd.prog.info? 13).bind (·.zero) = some (.agg ⟨[.string ⟨#[]⟩, .int .u64 0]⟩) := by kernel_rfl
theorem z_14 : (Tryd.prog.info? 14).bind (·.zero) = some (.agg ⟨[.string ⟨#[]⟩, .int .u64 0]⟩) := by kernel_rfl
theorem z_15 : (Tryd.prog.info? 15).bind (·.zero) = some (.pointer none) := by kernel_rfl
theorem z_16 : (Tryd.prog.info? 16).bind (·.zero) = some (.pointer none) := by kernel_rfl
theorem z_17 : (Tryd.prog.info? 17).bind (·.zero) = some (.pointer none) := by kernel_rfl
theorem z_18 : (Tryd.prog.info? 18).bind (·.zero) = some (.agg ⟨[.pointer none]⟩) := by kernel_rfl
theorem z_19 : (Tryd.prog.info? 19).bind (·.zero) = some (.agg ⟨[.pointer none]⟩) := by kernel_rfl
theorem z_21 : (Tryd.prog.info? 21).bind (·.zero) = some (.int .i32 0) := by kernel_rfl
theorem z_22 : (Tryd.prog.info? 22).bind (·.zero) = some (.slice none 0 0) := by kernel_rfl
theorem z_23 : (Tryd.prog.info? 23).bind (·.zero) = some (.slice none 0 0) := by kernel_rfl
theorem z_26 : (Tryd.prog.info? 26).bind (·.zero) = some (.pointer none) := by kernel_rfl
theorem z_27 : (Tryd.prog.info? 27).bind (·.zero) = some (.int .i64 0) := by kernel_rfl
theorem z_30 : (Tryd.prog.info? 30).bind (·.zero) = some (.pointer none) := by kernel_rfl
theorem z_36 : (Tryd.prog.info? 36).bind (·.zero) = some (.slice none 0 0) := by kernel_rfl
theorem z_44 : (Tryd.prog.info? 44).bind (·.zero) = some (.agg ⟨[.string ⟨#[]⟩, .string ⟨#[]⟩]⟩) := by kernel_rfl
theorem z_45 : (Tryd.prog.info? 45).bind (·.zero) = some (.agg ⟨[.string ⟨#[]⟩, .string ⟨#[]⟩]⟩) := by kernel_rfl
theorem z_49 : (Tryd.prog.info? 49).bind (·.zero) = some (.map none) := by kernel_rfl
theorem z_50 : (Tryd.prog.info? 50).bind (·.zero) = some (.slice none 0 0) := by kernel_rfl
theorem z_51 : (Tryd.prog.info? 51).bind (·.zero) = some (.agg ⟨[.int .i64 0, .int .i64 0, .int .i64 0, .int .i64 0, .int .i64 0, .int .i64 0, .int .i64 0, .int .i64 0, .int .i64 0, .int .i64 0, .int .i64 0, .int .i64 0, .int .i64 0, .int .i64 0, .int .i64 0, .int .i64 0]⟩) := by kernel_rfl
theorem z_58 : (Tryd.prog.info? 58).bind (·.zero) = some (.slice none 0 0) := by kernel_rfl
theorem z_59 : (Tryd.prog.info? 59).bind (·.zero) = some (.agg ⟨[.slice none 0 0, .slice none 0 0]⟩) := by kernel_rfl
theorem z_60 : (Tryd.prog.info? 60).bind (·.zero) = some (.agg ⟨[.slice none 0 0, .slice none 0 0]⟩) := by kernel_rfl
theorem z_61 : (Tryd.prog.info? 61).bind (·.zero) = some (.slice none 0 0) := by kernel_rfl
theorem z_63 : (Tryd.prog.info? 63).bind (·.zero) = some (.int .u32 0) := by kernel_rfl
theorem z_64 : (Tryd.prog.info? 64).bind (·.zero) = some (.int .u32 0) := by kernel_rfl
theorem z_67 : (Tryd.prog.info? 67).bind (·.zero) = some (.agg ⟨[.int .u8 0, .int .u8 0, .int .u8 0, .int .u8 0, .int .u8 0, .int .u8 0, .int .u8 0, .int .u8 0, .int .u8 0, .int .u8 0, .int .u8 0, .int .u8 0, .int .u8 0, .int .u8 0, .int .u8 0, .int .u8 0, .int .u8 0, .int .u8 0, .int .u8 0, .int .u8 0, .int .u8 0, .int .u8 0, .int .u8 0, .int .u8 0, .int .u8 0, .int .u8 0, .int .u8 0, .int .u8 0, .int .u8 0, .int .u8 0, .int .u8 0, .int .u8 0]⟩) := by kernel_rfl
theorem z_68 : (Tryd.prog.info? 68).bind (·.zero) = some (.int .u64 0) := by kernel_rfl
theorem z_70 : (Tryd.prog.info? 70).bind (·.zero) = some (.agg ⟨[.pointer none, .pointer none, .pointer none, .string ⟨#[]⟩]⟩) := by kernel_rfl
theorem z_71 : (Tryd.prog.info? 71).bind (·.zero) = some (.agg ⟨[.pointer none, .pointer none, .pointer none, .string ⟨#[]⟩]⟩) := by kernel_rfl
theorem z_75 : (Tryd.prog.info? 75).bind (·.zero) = some (.int .u8 0) := by kernel_rfl
theorem z_76 : (Tryd.prog.info? 76).bind (·.zero) = some (.int .u8 0) := by kernel_rfl
theorem z_78 : (Tryd.prog.info? 78).bind (·.zero) = some (.pointer none) := by kernel_rfl
theorem z_79 : (Tryd.prog.info? 79).bind (·.zero) = some (.int .i32 0) := by kernel_rfl
theorem z_80 : (Tryd.prog.info? 80).bind (·.zero) = some (.int .i32 0) := by kernel_rfl
theorem z_81 : (Tryd.prog.info? 81).bind (·.zero) = some (.agg ⟨[.int .u64 0, .int .u64 0, .int .u32 0, .int .u8 0, .int .u8 0, .int .u8 0, .int .u8 0, .nilFunc, .pointer none, .int .i32 0, .int .i32 0]⟩) := by kernel_rfl
theorem z_82 : (Tryd.prog.info? 82).bind (·.zero) = some (.agg ⟨[.int .u64 0, .int .u64 0, .int .u32 0, .int .u8 0, .int .u8 0, .int .u8 0, .int .u8 0, .nilFunc, .pointer none, .int .i32 0, .int .i32 0]⟩) := by kernel_rfl
theorem uk_2 : Tryd.prog.underlying 2 = some (.int .i64) := by kernel_rfl
theorem uk_3 : Tryd.prog.underlying 3 = some (.int .i64) := by kernel_rfl
theorem ub_4 : Tryd.prog.underlying 4 = some .bool := by kernel_rfl
theorem uk_5 : Tryd.prog.underlying 5 = some (.int .u8) := by kernel_rfl
theorem uk_6 : Tryd.prog.underlying 6 = some (.int .u8) := by kernel_rfl
theorem uk_9 : Tryd.prog.underlying 9 = some .string := by kernel_rfl
theorem uk_10 : Tryd.prog.underlying 10 = some .string := by kernel_rfl
theorem uk_11 : Tryd.prog.underlying 11 = some .string := by kernel_rfl
theorem uk_12 : Tryd.prog.underlying 12 = some (.int .u64) := by kernel_rfl
theorem up_15 : Tryd.prog.underlying 15 = some (.pointer 71) := by kernel_rfl
theorem up_16 : Tryd.prog.underlying 16 = some (.pointer 74) := by kernel_rfl
theorem up_17 : Tryd.prog.underlying 17 = some (.pointer 82) := by kernel_rfl
theorem uk_21 : Tryd.prog.underlying 21 = some (.int .i32) := by kernel_rfl
theorem up_26 : Tryd.prog.underlying 26 = some (.pointer 54) := by kernel_rfl
theorem uk_27 : Tryd.prog.underlying 27 = some (.int .i64) := by kernel_rfl
theorem up_30 : Tryd.prog.underlying 30 = some (.pointer 60) := by kernel_rfl
theorem um_49 : Tryd.prog.underlying 49 = some (.map 9 3) := by kernel_rfl
theorem ua_51 : Tryd.prog.underlying 51 = some (.array 16 3) := by kernel_rfl
theorem ua_52 : Tryd.prog.underlying 52 = some (.array 16 51) := by kernel_rfl
theorem z_53 : (Tryd.prog.info? 53).bind (·.zero) = some (.agg ⟨[.slice none 0 0, .map none, .slice none 0 0, .slice none 0 0] ++ (arCells .i64 256 [] ++ (arCells .i64 256 [] ++ []))⟩) := by kernel_rfl
theorem z_54 : (Tryd.prog.info? 54).bind (·.zero) = some (.agg ⟨[.slice none 0 0, .map none, .slice none 0 0, .slice none 0 0] ++ (arCells .i64 256 [] ++ (arCells .i64 256 [] ++ []))⟩) := by kernel_rfl
theorem uk_63 : Tryd.prog.underlying 63 = some (.int .u32) := by kernel_rfl
theorem uk_64 : Tryd.prog.underlying 64 = some (.int .u32) := by kernel_rfl
theorem ua_67 : Tryd.prog.underlying 67 = some (.array 32 5) := by kernel_rfl
theorem uk_68 : Tryd.prog.underlying 68 = some (.int .u64) := by kernel_rfl
theorem ua_72 : Tryd.prog.underlying 72 = some (.array 0 16) := by kernel_rfl
theorem uk_75 : Tryd.prog.underlying 75 = some (.int .u8) := by kernel_rfl
theorem uk_76 : Tryd.prog.underlying 76 = some (.int .u8) := by kernel_rfl
theorem up_78 : Tryd.prog.underlying 78 = some (.pointer 5) := by kernel_rfl
theorem uk_79 : Tryd.prog.underlying 79 = some (.int .i32) := by kernel_rfl
theorem uk_80 : Tryd.prog.underlying 80 = some (.int .i32) := by kernel_rfl
end Go.Proofs.YtliaopbgkcdibaaDoor
