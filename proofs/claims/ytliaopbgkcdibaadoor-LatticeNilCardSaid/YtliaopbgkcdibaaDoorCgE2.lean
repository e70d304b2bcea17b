/- The contracts: what the machine does at a call is what the plain function says. Written by mk.py. -/
import Derived.Test.YtliaopbgkcdibaaDoorCgE0
import Derived.Test.YtliaopbgkcdibaaDoorCgE1
set_option linter.unusedVariables false
set_option linter.unusedSimpArgs false
set_option maxRecDepth 100000
namespace Go.Proofs.YtliaopbgkcdibaaDoor
open Go.RowKit
theorem cl_26 : Callable Tryd.prog 26 := ⟨_, Tryd.func26, by kernel_rfl, by kernel_rfl⟩

def lattice_Lattice_tables.C (s : Tlattice_Lattice → Option (Bool × Tlattice_Lattice)) : Prop := ∀ (p0 : Tlattice_Lattice) (r : Bool × Tlattice_Lattice), s p0 = some r → ∀ (w0 : World) (G0 : GH) (D0 : List Nat) (b1 : Nat) (A2 : Option Addr) (c3 : Nat) (A5 : Option Nat) (A7 : Option Addr) (c8 : Nat) (A10 : Option Addr) (c11 : Nat), Inv w0 G0 D0 G0 [.blk b1 ([.slice A2 p0.names_.length c3, .map A5, .slice A7 p0.up_.length c8, .slice A10 p0.down_.length c11] ++ (arCells .i64 256 p0.join_ ++ (arCells .i64 256 p0.meet_ ++ []))) 54] w0 → (Sl G0 A2 c3 1 (p0.names_.map D.str)) → (Mp G0 A5 false D.str (D.int .i64) p0.at_) → (Sl G0 A7 c8 1 (p0.up_.map (D.int .u32))) → (Sl G0 A10 c11 1 (p0.down_.map (D.int .u32))) → Calls Tryd.prog 26 #[.pointer (some ⟨b1, 0, none⟩)] w0 (Ret w0 G0 D0 fun G' L' v => ∃ A0_0 c0_0 A0_1 A0_2 c0_2 A0_3 c0_3, L' = [.blk b1 ([.slice A0_0 r.2.names_.length c0_0, .map A0_1, .slice A0_2 r.2.up_.length c0_2, .slice A0_3 r.2.down_.length c0_3] ++ (arCells .i64 256 r.2.join_ ++ (arCells .i64 256 r.2.meet_ ++ []))) 54] ∧ v = .bool r.1 ∧ Sl G' A0_0 c0_0 1 (r.2.names_.map D.str) ∧ Mp G' A0_1 false D.str (D.int .i64) r.2.at_ ∧ Sl G' A0_2 c0_2 1 (r.2.up_.map (D.int .u32)) ∧ Sl G' A0_3 c0_3 1 (r.2.down_.map (D.int .u32)))

theorem lattice_Lattice_tables.ok (k : Nat) : lattice_Lattice_tables.C (lattice_Lattice_tables k) := by
  intro p0 r hF w0 G0 D0 b1 A2 c3 A5 A7 c8 A10 c11 hI h4 h6 h9 h12
  unfold lattice_Lattice_tables at hF
  refine calls_of_wp Tryd.func26 rfl ?_
  have hE : Env _ 118 [(0, .pointer (some ⟨b1, 0, none⟩))] := Env.start ⟨[.pointer (some ⟨b1, 0, none⟩)]⟩ 117
  refine c_seq ?_; refine c_reg ?_; refine run tt_ok 1 hE rfl fun a hE => ?_; refine c_end ?_; refine xT ?_; refine c_seq ?_; refine c_seq ?_; refine c_reg ?_; refine run tt_ok 3 hE rfl fun a hE => ?_
  refine s_rt hI hE rfl (f_loadB tt_ok 0 rfl rfl rfl rfl) rfl fun a hE => ?_; refine run tt_ok 2 hE rfl fun a hE => ?_; refine c_end ?_; refine xT ?_; obtain ⟨o887, hO888, hK889⟩ := bd hF; clear hF
  refine c_cut (fun a' w' => ∃ (s891 : (List Int) × (List Int)) (G892 : GH), o887 = .go s891 ∧ G0.le G892 ∧ Env a' 118 [(0, .pointer (some ⟨b1, 0, none⟩))] ∧ Inv w0 G0 D0 G892 [.blk b1 ([.slice A2 p0.names_.length c3, .map A5, .slice A7 p0.up_.length c8, .slice A10 p0.down_.length c11] ++ (arCells .i64 256 s891.1 ++ (arCells .i64 256 s891.2 ++ []))) 54] w') ?_ ?_
  rotate_left
  · clear hE hI hO888; rintro a w ⟨s891, G892, rfl, hg895, hE, hI⟩; have hF := lrk_go hK889; clear hK889; refine xT ?_; refine c_seq ?_; refine c_reg ?_; refine run tt_ok 3 hE rfl fun a hE => ?_
    refine s_rt hI hE rfl (f_loadB tt_ok 0 rfl rfl rfl rfl) rfl fun a hE => ?_; refine run tt_ok 3 hE rfl fun a hE => ?_; refine c_end ?_; refine xT ?_; refine c_ret ?_; cases hF
    refine r_ret (v := _) hE rfl ⟨_, _, _, rfl, hI, A2, c3, A5, A7, c8, A10, c11, rfl, rfl, (h4.mono hg895), (h6.mono hg895), (h9.mono hg895), (h12.mono hg895)⟩
  refine c_block ?_
  refine wp_loop_ghost (fun n' a' w' => ∃ (i902 : Nat) (rest904 : List ByteArray) (s886 : (List Int) × (List Int)) (G883 : GH), n' = rest904.length ∧ i902 ≤ p0.names_.length ∧ p0.names_.drop i902 = rest904 ∧ forL (lattice_Lattice_tables.b0 k p0) i902 rest904 s886 = some o887 ∧ G0.le G883 ∧ Env a' 118 [(12, .int .i64 (i902 : Int)), (0, .pointer (some ⟨b1, 0, none⟩)), (11, .int .i64 (p0.names_.length : Int))] ∧ Inv w0 G0 D0 G883 [.blk b1 ([.slice A2 p0.names_.length c3, .map A5, .slice A7 p0.up_.length c8, .slice A10 p0.down_.length c11] ++ (arCells .i64 256 s886.1 ++ (arCells .i64 256 s886.2 ++ []))) 54] w') _ ⟨0, _, _, G0, rfl, Nat.zero_le _, rfl, hO888, (GH.le.refl _), hE.keep ⟨rfl, rfl, rfl, trivial⟩, hI⟩ ?_
  clear hE hI hO888; rintro m901 a w ⟨i902, rest904, s886, G883, rfl, hi908, hd905, hO888, hg890, hE, hI⟩; rcases rest904 with _ | ⟨x903, rest904⟩
  · obtain rfl := forL_nil hO888; have hlt907 := drop_nil hd905 hi908; clear hd905; refine c_seq ?_; refine c_reg ?_; refine run tt_ok 1 hE rfl fun a hE => ?_; refine c_end ?_; refine xT ?_; refine c_seq ?_
    have hE := hE.tr (t := 13) rfl (decide_eq_false (by omega)); refine c_false hE rfl ?_; refine c_exit ?_; refine xTe ?_; refine xTe ?_; refine xBh ?_; refine xT ?_; exact ⟨_, G883, rfl, hg890, hE.keep ⟨rfl, trivial⟩, hI⟩
  obtain ⟨stp900, hF, hO888⟩ := forL_step hO888; obtain ⟨hx906, hd905, hlt907⟩ := drop_cons hd905; unfold lattice_Lattice_tables.b0 at hF; refine c_seq ?_; refine c_reg ?_; refine run tt_ok 1 hE rfl fun a hE => ?_
  refine c_end ?_; refine xT ?_; refine c_seq ?_; have hE := hE.tr (t := 13) rfl (decide_eq_true (by omega)); refine c_true hE rfl ?_; refine c_skip ?_; refine xT ?_; refine c_seq ?_; refine c_block ?_; refine c_seq ?_
  refine c_reg ?_; refine run tt_ok 2 hE rfl fun a hE => ?_; refine c_end ?_; refine xT ?_; refine c_seq ?_; refine c_reg ?_; refine run tt_ok 3 hE rfl fun a hE => ?_
  refine s_rt hI hE rfl (f_loadB tt_ok 0 rfl rfl rfl rfl) rfl fun a hE => ?_; refine run tt_ok 2 hE rfl fun a hE => ?_; refine c_end ?_; refine xT ?_; obtain ⟨o1199, hO1200, hK1201⟩ := bd hF; clear hF
  refine c_cut (fun a' w' => ∃ (s1203 : (List Int) × (List Int)) (G1204 : GH), o1199 = .go s1203 ∧ G883.le G1204 ∧ Env a' 118 [(0, .pointer (some ⟨b1, 0, none⟩)), (11, .int .i64 (p0.names_.length : Int)), (12, .int .i64 (i902 : Int))] ∧ Inv w0 G0 D0 G1204 [.blk b1 ([.slice A2 p0.names_.length c3, .map A5, .slice A7 p0.up_.length c8, .slice A10 p0.down_.length c11] ++ (arCells .i64 256 s1203.1 ++ (arCells .i64 256 s1203.2 ++ []))) 54] w') ?_ ?_
  rotate_left
  · clear hE hI hO1200; rintro a w ⟨s1203, G1204, rfl, hg1207, hE, hI⟩; have hF := lrk_go hK1201; clear hK1201; refine xB ?_; refine xT ?_; refine c_reg ?_; refine run tt_ok 2 hE rfl fun a hE => ?_; refine c_end ?_
    refine xT ?_; cases hF; have hE := hE.setI (t := 12) rfl (w64_succ hlt907 (len_le h4))
    exact ⟨rest904.length, Nat.lt_succ_self _, i902 + 1, rest904, _, G1204, rfl, hlt907, hd905, hO888, (hg890.trans hg1207), hE.keep ⟨rfl, rfl, rfl, trivial⟩, hI⟩
  refine c_block ?_
  refine wp_loop_ghost (fun n' a' w' => ∃ (i1210 : Nat) (rest1212 : List ByteArray) (s1198 : (List Int) × (List Int)) (G1195 : GH), n' = rest1212.length ∧ i1210 ≤ p0.names_.length ∧ p0.names_.drop i1210 = rest1212 ∧ forL (lattice_Lattice_tables.b1 k i902 p0) i1210 rest1212 s1198 = some o1199 ∧ G883.le G1195 ∧ Env a' 118 [(20, .int .i64 (i1210 : Int)), (0, .pointer (some ⟨b1, 0, none⟩)), (3, .int .i64 (i902 : Int)), (11, .int .i64 (p0.names_.length : Int)), (12, .int .i64 (i902 : Int)), (19, .int .i64 (p0.names_.length : Int))] ∧ Inv w0 G0 D0 G1195 [.blk b1 ([.slice A2 p0.names_.length c3, .map A5, .slice A7 p0.up_.length c8, .slice A10 p0.down_.length c11] ++ (arCells .i64 256 s1198.1 ++ (arCells .i64 256 s1198.2 ++ []))) 54] w') _ ⟨0, _, _, G883, rfl, Nat.zero_le _, rfl, hO1200, (GH.le.refl _), hE.keep ⟨rfl, rfl, rfl, rfl, rfl, rfl, trivial⟩, hI⟩ ?_
  clear hE hI hO1200; rintro m1209 a w ⟨i1210, rest1212, s1198, G1195, rfl, hi1216, hd1213, hO1200, hg1202, hE, hI⟩; rcases rest1212 with _ | ⟨x1211, rest1212⟩
  · obtain rfl := forL_nil hO1200; have hlt1215 := drop_nil hd1213 hi1216; clear hd1213; refine c_seq ?_; refine c_reg ?_; refine run tt_ok 1 hE rfl fun a hE => ?_; refine c_end ?_; refine xT ?_; refine c_seq ?_
    have hE := hE.tr (t := 21) rfl (decide_eq_false (by omega)); refine c_false hE rfl ?_; refine c_exit ?_; refine xTe ?_; refine xTe ?_; refine xBh ?_; refine xT ?_
    exact ⟨_, G1195, rfl, hg1202, hE.keep ⟨rfl, rfl, rfl, trivial⟩, hI⟩
  obtain ⟨stp1208, hF, hO1200⟩ := forL_step hO1200; obtain ⟨hx1214, hd1213, hlt1215⟩ := drop_cons hd1213; unfold lattice_Lattice_tables.b1 at hF; refine c_seq ?_; refine c_reg ?_; refine run tt_ok 1 hE rfl fun a hE => ?_
  refine c_end ?_; refine xT ?_; refine c_seq ?_; have hE := hE.tr (t := 21) rfl (decide_eq_true (by omega)); refine c_true hE rfl ?_; refine c_skip ?_; refine xT ?_; refine c_seq ?_; refine c_block ?_; refine c_seq ?_
  refine c_reg ?_; refine run tt_ok 2 hE rfl fun a hE => ?_; refine c_end ?_; refine xT ?_; refine c_seq ?_; refine c_seq ?_; obtain ⟨m1243, hF, hR1245⟩ := bd hF
  refine c_cut (fun a' w' => ∃ (G1241 : GH), G1195.le G1241 ∧ Env a' 118 [(0, .pointer (some ⟨b1, 0, none⟩)), (3, .int .i64 (i902 : Int)), (4, .int .i64 (i1210 : Int)), (11, .int .i64 (p0.names_.length : Int)), (12, .int .i64 (i902 : Int)), (19, .int .i64 (p0.names_.length : Int)), (20, .int .i64 (i1210 : Int)), (47, .bool m1243)] ∧ Inv w0 G0 D0 G1241 [.blk b1 ([.slice A2 p0.names_.length c3, .map A5, .slice A7 p0.up_.length c8, .slice A10 p0.down_.length c11] ++ (arCells .i64 256 s1198.1 ++ (arCells .i64 256 s1198.2 ++ []))) 54] w') ?_ ?_
  · refine c_reg ?_; refine run tt_ok 4 hE rfl fun a hE => ?_; rcases bool_or (!decide ((i902 : Int) = (i1210 : Int))) with hb1327 | hb1327; rotate_left
    · replace hF := cf hb1327 hF; have hE := hE.tr (t := 26) rfl hb1327; clear hb1327; refine run tt_ok 21 hE rfl fun a hE => ?_; refine c_end ?_; refine xT ?_; cases hF
      exact ⟨G1195, (GH.le.refl _), hE.keep ⟨rfl, rfl, rfl, rfl, rfl, rfl, rfl, rfl, trivial⟩, hI⟩
    replace hF := ct hb1327 hF; have hE := hE.tr (t := 26) rfl hb1327; clear hb1327; refine run tt_ok 3 hE rfl fun a hE => ?_; refine s_rt hI hE rfl (f_loadB tt_ok 0 rfl rfl rfl rfl) rfl fun a hE => ?_
    refine run tt_ok 1 hE rfl fun a hE => ?_; obtain ⟨y1332, hy1333, hF⟩ := bd hF; obtain ⟨b1328, o1329, cs, hb1334, hR1331, hA1330⟩ := sl_at (h9.mono (hg890.trans hg1202)) (getO_some hy1333).1 (getO_some hy1333).2
    obtain rfl := rep_int.1 hR1331; refine s_rt hI hE rfl (f_idx tt_ok hb1334 rfl rfl rfl) rfl fun a hE => ?_; refine s_rt hI hE rfl (f_loadG tt_ok hA1330 0 rfl rfl rfl rfl) rfl fun a hE => ?_
    refine run tt_ok 1 hE rfl fun a hE => ?_; obtain ⟨y1335, hy1336, hF⟩ := bd hF; refine s_call0 cl_29 hI hE rfl rfl ((lattice_set_has.ok k) _ _ _ hy1336 _ _  hI.pass0 ) rfl ?_; clear hE hI
    rintro a w _ G1338 _ ⟨rfl, rfl⟩ hg1337 hI hE; refine run tt_ok 2 hE rfl fun a hE => ?_; rcases bool_or y1335 with hb1339 | hb1339; rotate_left
    · replace hF := cf hb1339 hF; have hE := hE.tr (t := 37) rfl hb1339; clear hb1339; refine run tt_ok 10 hE rfl fun a hE => ?_; refine c_end ?_; refine xT ?_; cases hF
      exact ⟨G1338, hg1337, hE.keep ⟨rfl, rfl, rfl, rfl, rfl, rfl, rfl, rfl, trivial⟩, hI⟩
    replace hF := ct hb1339 hF; have hE := hE.tr (t := 37) rfl hb1339; clear hb1339; refine run tt_ok 3 hE rfl fun a hE => ?_; refine s_rt hI hE rfl (f_loadB tt_ok 0 rfl rfl rfl rfl) rfl fun a hE => ?_
    refine run tt_ok 1 hE rfl fun a hE => ?_; obtain ⟨y1344, hy1345, hF⟩ := bd hF
    obtain ⟨b1340, o1341, cs, hb1346, hR1343, hA1342⟩ := sl_at (h9.mono ((hg890.trans hg1202).trans hg1337)) (getO_some hy1345).1 (getO_some hy1345).2; obtain rfl := rep_int.1 hR1343
    refine s_rt hI hE rfl (f_idx tt_ok hb1346 rfl rfl rfl) rfl fun a hE => ?_; refine s_rt hI hE rfl (f_loadG tt_ok hA1342 0 rfl rfl rfl rfl) rfl fun a hE => ?_; refine run tt_ok 1 hE rfl fun a hE => ?_
    obtain ⟨y1347, hy1348, hF⟩ := bd hF; refine s_call0 cl_29 hI hE rfl rfl ((lattice_set_has.ok k) _ _ _ hy1348 _ _  hI.pass0 ) rfl ?_; clear hE hI; rintro a w _ G1350 _ ⟨rfl, rfl⟩ hg1349 hI hE
    refine run tt_ok 1 hE rfl fun a hE => ?_; refine c_end ?_; refine xT ?_; cases hF; exact ⟨G1350, (hg1337.trans hg1349), hE.keep ⟨rfl, rfl, rfl, rfl, rfl, rfl, rfl, rfl, trivial⟩, hI⟩
  clear hE hI; rintro a w ⟨G1241, hg1244, hE, hI⟩; clear hF; have hF := hR1245; clear hR1245; refine xT ?_; refine c_if (b := m1243) hE rfl (fun hb1326 => ?_) (fun hb1326 => ?_)
  · replace hF := ct hb1326 hF; refine c_seq ?_; refine c_reg ?_; refine run tt_ok 1 hE rfl fun a hE => ?_; refine c_end ?_; refine xT ?_; refine c_ret ?_; refine xTr ?_; refine xBr ?_; refine xTr ?_; refine xTr ?_
    refine xBr ?_; refine xTr ?_; refine xBr ?_; refine xTr ?_; refine xTr ?_; refine xBr ?_; refine xTr ?_; refine xTr ?_; cases hF; obtain rfl := nxt_ret hO1200; have hF := lrk_ret hK1201
    cases hF; obtain rfl := nxt_ret hO888; have hF := lrk_ret hK889; cases hF
    refine r_ret (v := _) hE rfl ⟨_, _, _, rfl, hI, A2, c3, A5, A7, c8, A10, c11, rfl, rfl, (h4.mono ((hg890.trans hg1202).trans hg1244)), (h6.mono ((hg890.trans hg1202).trans hg1244)), (h9.mono ((hg890.trans hg1202).trans hg1244)), (h12.mono ((hg890.trans hg1202).trans hg1244))⟩
  replace hF := cf hb1326 hF; refine c_skip ?_; refine xT ?_; refine c_seq ?_; refine c_draw mixed (by kernel_rfl) hI ?_; clear hI; refine runq tt_ok 3 hE rfl fun a hE => ?_
  refine q_rt hE rfl (f_loadB tt_ok 0 rfl rfl rfl rfl) rfl fun a hE => ?_; refine runq tt_ok 1 hE rfl fun a hE => ?_; obtain ⟨y1280, hy1281, hF⟩ := bd hF
  obtain ⟨b1276, o1277, cs, hb1282, hR1279, hA1278⟩ := sl_at (h9.mono ((hg890.trans hg1202).trans hg1244)) (getO_some hy1281).1 (getO_some hy1281).2; obtain rfl := rep_int.1 hR1279
  refine q_rt hE rfl (f_idx tt_ok hb1282 rfl rfl rfl) rfl fun a hE => ?_; refine q_rt hE rfl (f_loadG tt_ok hA1278 0 rfl rfl rfl rfl) rfl fun a hE => ?_; refine runq tt_ok 3 hE rfl fun a hE => ?_
  refine q_rt hE rfl (f_loadB tt_ok 0 rfl rfl rfl rfl) rfl fun a hE => ?_; refine runq tt_ok 1 hE rfl fun a hE => ?_; obtain ⟨y1287, hy1288, hF⟩ := bd hF
  obtain ⟨b1283, o1284, cs, hb1289, hR1286, hA1285⟩ := sl_at (h9.mono ((hg890.trans hg1202).trans hg1244)) (getO_some hy1288).1 (getO_some hy1288).2; obtain rfl := rep_int.1 hR1286
  refine q_rt hE rfl (f_idx tt_ok hb1289 rfl rfl rfl) rfl fun a hE => ?_; refine q_rt hE rfl (f_loadG tt_ok hA1285 0 rfl rfl rfl rfl) rfl fun a hE => ?_; refine runq tt_ok 4 hE rfl fun a hE => ?_
  refine q_rt hE rfl (f_loadB tt_ok 0 rfl rfl rfl rfl) rfl fun a hE => ?_; obtain ⟨y1290, hy1291, hF⟩ := bd hF
  refine q_call cl_32 hE rfl rfl (fun w hI => (lattice_least.ok k) _ _ _ hy1291 _ _ _ _ hI.pass0 (h9.mono ((hg890.trans hg1202).trans hg1244))) (fun _ _ _ h => h.2) rfl fun a hE => ?_
  refine runq tt_ok 3 hE rfl fun a hE => ?_; refine q_rt hE rfl (f_loadB tt_ok 0 rfl rfl rfl rfl) rfl fun a hE => ?_; refine runq tt_ok 1 hE rfl fun a hE => ?_; obtain ⟨y1297, hy1298, hF⟩ := bd hF
  obtain ⟨b1293, o1294, cs, hb1299, hR1296, hA1295⟩ := sl_at (h12.mono ((hg890.trans hg1202).trans hg1244)) (getO_some hy1298).1 (getO_some hy1298).2; obtain rfl := rep_int.1 hR1296
  refine q_rt hE rfl (f_idx tt_ok hb1299 rfl rfl rfl) rfl fun a hE => ?_; refine q_rt hE rfl (f_loadG tt_ok hA1295 0 rfl rfl rfl rfl) rfl fun a hE => ?_; refine runq tt_ok 3 hE rfl fun a hE => ?_
  refine q_rt hE rfl (f_loadB tt_ok 0 rfl rfl rfl rfl) rfl fun a hE => ?_; refine runq tt_ok 1 hE rfl fun a hE => ?_; obtain ⟨y1304, hy1305, hF⟩ := bd hF
  obtain ⟨b1300, o1301, cs, hb1306, hR1303, hA1302⟩ := sl_at (h12.mono ((hg890.trans hg1202).trans hg1244)) (getO_some hy1305).1 (getO_some hy1305).2; obtain rfl := rep_int.1 hR1303
  refine q_rt hE rfl (f_idx tt_ok hb1306 rfl rfl rfl) rfl fun a hE => ?_; refine q_rt hE rfl (f_loadG tt_ok hA1302 0 rfl rfl rfl rfl) rfl fun a hE => ?_; refine runq tt_ok 4 hE rfl fun a hE => ?_
  refine q_rt hE rfl (f_loadB tt_ok 0 rfl rfl rfl rfl) rfl fun a hE => ?_; obtain ⟨y1307, hy1308, hF⟩ := bd hF
  refine q_call cl_32 hE rfl rfl (fun w hI => (lattice_least.ok k) _ _ _ hy1308 _ _ _ _ hI.pass0 (h12.mono ((hg890.trans hg1202).trans hg1244))) (fun _ _ _ h => h.2) rfl fun a hE => ?_
  refine runq tt_ok 2 hE rfl fun a hE => ?_; refine q_end ?_; intro w hI; refine xT ?_; refine c_seq ?_; refine c_seq ?_; obtain ⟨m1313, hF, hR1315⟩ := bd hF
  refine c_cut (fun a' w' => ∃ (G1311 : GH), G1241.le G1311 ∧ Env a' 118 [(0, .pointer (some ⟨b1, 0, none⟩)), (3, .int .i64 (i902 : Int)), (4, .int .i64 (i1210 : Int)), (5, .int .i64 y1290), (6, .int .i64 y1307), (11, .int .i64 (p0.names_.length : Int)), (12, .int .i64 (i902 : Int)), (19, .int .i64 (p0.names_.length : Int)), (20, .int .i64 (i1210 : Int)), (93, .bool m1313)] ∧ Inv w0 G0 D0 G1311 [.blk b1 ([.slice A2 p0.names_.length c3, .map A5, .slice A7 p0.up_.length c8, .slice A10 p0.down_.length c11] ++ (arCells .i64 256 s1198.1 ++ (arCells .i64 256 s1198.2 ++ []))) 54] w') ?_ ?_
  · refine c_reg ?_; refine run tt_ok 3 hE rfl fun a hE => ?_; rcases bool_or (decide (y1290 < (0 : Int))) with hb1325 | hb1325
    · replace hF := ct hb1325 hF; have hE := hE.tr (t := 90) rfl hb1325; clear hb1325; refine run tt_ok 3 hE rfl fun a hE => ?_; refine c_end ?_; refine xT ?_; cases hF
      exact ⟨G1241, (GH.le.refl _), hE.keep ⟨rfl, rfl, rfl, rfl, rfl, rfl, rfl, rfl, rfl, rfl, trivial⟩, hI⟩
    replace hF := cf hb1325 hF; have hE := hE.tr (t := 90) rfl hb1325; clear hb1325; refine run tt_ok 3 hE rfl fun a hE => ?_; refine c_end ?_; refine xT ?_; cases hF
    exact ⟨G1241, (GH.le.refl _), hE.keep ⟨rfl, rfl, rfl, rfl, rfl, rfl, rfl, rfl, rfl, rfl, trivial⟩, hI⟩
  clear hE hI; rintro a w ⟨G1311, hg1314, hE, hI⟩; clear hF; have hF := hR1315; clear hR1315; refine xT ?_; refine c_if (b := m1313) hE rfl (fun hb1324 => ?_) (fun hb1324 => ?_)
  · replace hF := ct hb1324 hF; refine c_seq ?_; refine c_reg ?_; refine run tt_ok 1 hE rfl fun a hE => ?_; refine c_end ?_; refine xT ?_; refine c_ret ?_; refine xTr ?_; refine xBr ?_; refine xTr ?_; refine xTr ?_
    refine xBr ?_; refine xTr ?_; refine xBr ?_; refine xTr ?_; refine xTr ?_; refine xBr ?_; refine xTr ?_; refine xTr ?_; cases hF; obtain rfl := nxt_ret hO1200; have hF := lrk_ret hK1201
    cases hF; obtain rfl := nxt_ret hO888; have hF := lrk_ret hK889; cases hF
    refine r_ret (v := _) hE rfl ⟨_, _, _, rfl, hI, A2, c3, A5, A7, c8, A10, c11, rfl, rfl, (h4.mono (((hg890.trans hg1202).trans hg1244).trans hg1314)), (h6.mono (((hg890.trans hg1202).trans hg1244).trans hg1314)), (h9.mono (((hg890.trans hg1202).trans hg1244).trans hg1314)), (h12.mono (((hg890.trans hg1202).trans hg1244).trans hg1314))⟩
  replace hF := cf hb1324 hF; refine c_skip ?_; refine xT ?_
  refine c_mix [12, 17] [(0, 0), (1, 0), (2, 0), (3, 0), (4, 0), (5, 0), (6, 0), (7, 0), (8, 0), (9, 0), (10, 0), (11, 0), (13, 0), (14, 0), (15, 0), (12, 3), (16, 0), (17, 3)] [] mixed (by kernel_rfl) hI ?_; clear hI; intro w hI
  have hS := hI.sw (Ls := []) [] (by decide) rfl (GH.le.refl _); refine mix_run tt_ok 10 hE rfl fun a hE => ?_; obtain ⟨_, hb1320, hF⟩ := bd hF
  refine d_rt hE rfl rfl (f_aidx tt_ok ua_52 rfl rfl rfl rfl hb1320) rfl fun a hE => ?_; obtain ⟨_, hb1321, hF⟩ := bd hF; refine d_rt hE rfl rfl (f_aidx tt_ok ua_51 rfl rfl rfl rfl hb1321) rfl fun a hE => ?_
  refine mix_run tt_ok 2 hE rfl fun a hE => ?_; obtain ⟨_, hb1322, hF⟩ := bd hF; refine d_rt hE rfl rfl (f_aidx tt_ok ua_52 rfl rfl rfl rfl hb1322) rfl fun a hE => ?_; refine d_last rfl ?_
  refine s_storeB tt_ok 0 hI hE rfl rfl rfl rfl rfl rfl rfl rfl (cs' := ([.slice A2 p0.names_.length c3, .map A5, .slice A7 p0.up_.length c8, .slice A10 p0.down_.length c11] ++ (arCells .i64 256 (setA s1198.1 ((i902 : Int).toNat * 16 + (i1210 : Int).toNat * 1) y1290) ++ (arCells .i64 256 s1198.2 ++ [])))) (ar_lay2 (pre := [.slice A2 p0.names_.length c3, .map A5, .slice A7 p0.up_.length c8, .slice A10 p0.down_.length c11]) rfl (by simp [arCells]) (ar_ij hb1320 hb1321) rfl) rfl fun a w hE hI => ?_
  refine d_nextl ?_; obtain ⟨_, hb1323, hF⟩ := bd hF; refine d_rt hE rfl rfl (f_aidx tt_ok ua_51 rfl rfl rfl rfl hb1323) rfl fun a hE => ?_; refine d_last rfl ?_
  refine s_storeB tt_ok 0 hI hE rfl rfl rfl rfl rfl rfl rfl rfl (cs' := ([.slice A2 p0.names_.length c3, .map A5, .slice A7 p0.up_.length c8, .slice A10 p0.down_.length c11] ++ (arCells .i64 256 (setA s1198.1 ((i902 : Int).toNat * 16 + (i1210 : Int).toNat * 1) y1290) ++ (arCells .i64 256 (setA s1198.2 ((i902 : Int).toNat * 16 + (i1210 : Int).toNat * 1) y1307) ++ [])))) (ar_lay2 (pre := ([.slice A2 p0.names_.length c3, .map A5, .slice A7 p0.up_.length c8, .slice A10 p0.down_.length c11] ++ (arCells .i64 256 (setA s1198.1 ((i902 : Int).toNat * 16 + (i1210 : Int).toNat * 1) y1290) ++ []))) rfl (by simp [arCells]) (ar_ij hb1322 hb1323) rfl) rfl fun a w hE hI => ?_
  refine d_nextl ?_; refine d_end ?_; refine xB ?_; refine xT ?_; refine c_reg ?_; refine run tt_ok 2 hE rfl fun a hE => ?_; refine c_end ?_; refine xT ?_; cases hF
  have hE := hE.setI (t := 20) rfl (w64_succ hlt1215 (len_le h4))
  exact ⟨rest1212.length, Nat.lt_succ_self _, i1210 + 1, rest1212, _, G1311, rfl, hlt1215, hd1213, hO1200, ((hg1202.trans hg1244).trans hg1314), hE.keep ⟨rfl, rfl, rfl, rfl, rfl, rfl, trivial⟩, hI⟩

theorem cl_7 : Callable Tryd.prog 7 := ⟨_, Tryd.func7, by kernel_rfl, by kernel_rfl⟩

def lattice_New.C (s : (List ByteArray) → (List TPair) → Option ((Option Tlattice_Lattice) × Int)) : Prop := ∀ (p0 : List ByteArray) (p1 : List TPair) (r : (Option Tlattice_Lattice) × Int), s p0 p1 = some r → ∀ (w0 : World) (G0 : GH) (A1 : Option Addr) (c2 : Nat) (A4 : Option Addr) (c5 : Nat), Inv w0 G0 [] G0 [] w0 → (Sl G0 A1 c2 1 (p0.map D.str)) → (Sl G0 A4 c5 2 (p1.map TPair.d)) → Calls Tryd.prog 7 #[.slice A1 p0.length c2, .slice A4 p1.length c5] w0 (Ret w0 G0 [] fun G' L' v => L' = [] ∧ ∃ A0, v = .tuple ⟨[.pointer A0, .int .i64 r.2]⟩ ∧ Pt G' A0 54 Tlattice_Lattice.d r.1)

theorem lattice_New.ok (k : Nat) : lattice_New.C (lattice_New k) := by
  intro p0 p1 r hF w0 G0 A1 c2 A4 c5 hI h3 h6
  unfold lattice_New at hF
  refine calls_of_wp Tryd.func7 rfl ?_
  have hE : Env _ 37 [(0, .slice A1 p0.length c2), (1, .slice A4 p1.length c5)] := Env.start ⟨[.slice A1 p0.length c2, .slice A4 p1.length c5]⟩ 35
  refine c_seq ?_; refine c_reg ?_; refine run tt_ok 2 hE rfl fun a hE => ?_; refine c_end ?_; refine xT ?_; refine c_seq ?_; refine c_seq ?_; obtain ⟨m10, hF, hR12⟩ := bd hF
  refine c_cut (fun a' w' => ∃ (G8 : GH), G0.le G8 ∧ Env a' 37 [(0, .slice A1 p0.length c2), (1, .slice A4 p1.length c5), (16, .bool m10)] ∧ Inv w0 G0 [] G8 [] w') ?_ ?_
  · refine c_reg ?_; refine run tt_ok 4 hE rfl fun a hE => ?_; rcases bool_or (decide ((16 : Int) < (p0.length : Int))) with hb107 | hb107
    · replace hF := ct hb107 hF; have hE := hE.tr (t := 12) rfl hb107; clear hb107; refine run tt_ok 4 hE rfl fun a hE => ?_; refine c_end ?_; refine xT ?_; cases hF
      exact ⟨G0, (GH.le.refl _), hE.keep ⟨rfl, rfl, rfl, trivial⟩, hI⟩
    replace hF := cf hb107 hF; have hE := hE.tr (t := 12) rfl hb107; clear hb107; refine run tt_ok 4 hE rfl fun a hE => ?_; refine c_end ?_; refine xT ?_; cases hF
    exact ⟨G0, (GH.le.refl _), hE.keep ⟨rfl, rfl, rfl, trivial⟩, hI⟩
  clear hE hI; rintro a w ⟨G8, hg11, hE, hI⟩; clear hF; have hF := hR12; clear hR12; refine xT ?_; refine c_if (b := m10) hE rfl (fun hb106 => ?_) (fun hb106 => ?_)
  · replace hF := ct hb106 hF; refine c_seq ?_; refine c_reg ?_; refine run tt_ok 2 hE rfl fun a hE => ?_; refine c_end ?_; refine xT ?_; refine c_ret ?_; refine xTr ?_; cases hF
    refine r_ret (v := _) hE rfl ⟨_, _, _, rfl, hI.nil, rfl, none, rfl, Pt.nil⟩
  replace hF := cf hb106 hF; refine c_skip ?_; refine xT ?_; refine c_seq ?_; refine c_reg ?_; refine run tt_ok 1 hE rfl fun a hE => ?_; obtain ⟨y17, hy18, hF⟩ := bd hF
  refine s_call0 cl_23 hI hE rfl rfl ((slices_Clone_string_string.ok k) _ _ hy18 _ _ _ _ hI.pass0 (h3.mono hg11)) rfl ?_; clear hE hI; rintro a w _ G20 _ ⟨rfl, A21, c22, rfl, h23⟩ hg19 hI hE
  refine s_makeMap hI hE rfl rfl fun a w m24 hE hI => ?_; have hM25 : RM G20 false D.str (D.int .i64) ([] : List (ByteArray × Int)) (#[] : Array MapEntry).toList := RM.nil
  refine s_rt hI hE rfl (f_build tt_ok rfl z_54 rfl rfl) rfl fun a hE => ?_; refine s_box hI hE rfl rfl rfl rfl fun a w b27 hE hI => ?_; refine run tt_ok 1 hE rfl fun a hE => ?_; refine c_end ?_; refine xT ?_
  refine c_seq ?_; refine c_seq ?_; refine c_reg ?_; refine run tt_ok 1 hE rfl fun a hE => ?_; have hI := hI.nilrow 64 1; have hR30 : RL G20 1 (([] : List Int).map (D.int .u32)) [] := RL.nil; have hI := hI.nilrow 64 1
  have hR32 : RL G20 1 (([] : List Int).map (D.int .u32)) [] := RL.nil; have hI := hI.pick [2, 3, 1, 0] (by decide) rfl; obtain ⟨y33, hy34, hF⟩ := bd hF
  refine s_callM [.blk b27 ([.slice A21 y17.length c22, .map (some m24), .slice none 0 0, .slice none 0 0] ++ (arCells .i64 256 ([] : List Int) ++ (arCells .i64 256 ([] : List Int) ++ []))) 54, .map m24 #[] 0, .row (.slice none 0 0) 64 1 0 [], .row (.slice none 0 0) 64 1 0 []] [] cl_24 hI hE rfl rfl (fun hIp => (lattice_Lattice_named.ok k) _ _ hy34 _ _ _ _ _ _ _ _ _ _ _ _ _ _ _ hIp h23 hM25 hR30 hR32) rfl ?_; clear hE hI
  rintro a w _ G36 _ ⟨A37, c38, es41, cl42, A45, c46, cs47, A50, c51, cs52, rfl, rfl, h39, hM43, hR48, hR53⟩ hg35 hI hE; refine run tt_ok 1 hE rfl fun a hE => ?_; refine c_end ?_; refine xT ?_; refine c_seq ?_
  refine c_reg ?_; refine run tt_ok 2 hE rfl fun a hE => ?_; refine c_end ?_; refine xT ?_; refine c_if (b := !decide (y33.1 = (0 : Int))) hE rfl (fun hb105 => ?_) (fun hb105 => ?_)
  · replace hF := ct hb105 hF; refine c_seq ?_; refine c_reg ?_; refine run tt_ok 3 hE rfl fun a hE => ?_; refine c_end ?_; refine xT ?_; refine c_ret ?_; refine xTr ?_; cases hF
    refine r_ret (v := _) hE rfl ⟨_, _, _, rfl, hI.nil, rfl, none, rfl, Pt.nil⟩
  replace hF := cf hb105 hF; refine c_skip ?_; refine xT ?_; refine c_seq ?_; refine c_seq ?_; refine c_reg ?_; refine run tt_ok 2 hE rfl fun a hE => ?_; obtain ⟨G55, hg56, hI, h57⟩ := (hI.front 1).giveM hM43
  obtain ⟨y58, hy59, hF⟩ := bd hF
  refine s_callM [.blk b27 ([.slice A37 y33.2.names_.length c38, .map (some m24), .slice A45 y33.2.up_.length c46, .slice A50 y33.2.down_.length c51] ++ (arCells .i64 256 y33.2.join_ ++ (arCells .i64 256 y33.2.meet_ ++ []))) 54, .row (.slice A45 y33.2.up_.length c46) 64 1 y33.2.up_.length cs47, .row (.slice A50 y33.2.down_.length c51) 64 1 y33.2.down_.length cs52] [] cl_25 hI hE rfl rfl (fun hIp => (lattice_Lattice_edges.ok k) _ _ _ hy59 _ _ _ _ _ _ _ _ _ _ _ _ _ _ _ hIp (h39.mono hg56) h57 (hR48.mono hg56) (hR53.mono hg56) (h6.mono (((hg11.trans hg19).trans hg35).trans hg56))) rfl ?_; clear hE hI
  rintro a w _ G61 _ ⟨A62, c63, A65, A68, c69, cs70, A73, c74, cs75, rfl, rfl, h64, h66, hR71, hR76⟩ hg60 hI hE; refine run tt_ok 1 hE rfl fun a hE => ?_; refine c_end ?_; refine xT ?_; refine c_seq ?_; refine c_reg ?_
  refine run tt_ok 2 hE rfl fun a hE => ?_; refine c_end ?_; refine xT ?_; refine c_if (b := !decide (y58.1 = (0 : Int))) hE rfl (fun hb104 => ?_) (fun hb104 => ?_)
  · replace hF := ct hb104 hF; refine c_seq ?_; refine c_reg ?_; refine run tt_ok 3 hE rfl fun a hE => ?_; refine c_end ?_; refine xT ?_; refine c_ret ?_; refine xTr ?_; cases hF
    refine r_ret (v := _) hE rfl ⟨_, _, _, rfl, hI.nil, rfl, none, rfl, Pt.nil⟩
  replace hF := cf hb104 hF; refine c_skip ?_; refine xT ?_; refine c_seq ?_; refine c_seq ?_; refine c_reg ?_; refine run tt_ok 1 hE rfl fun a hE => ?_
  obtain ⟨G78, hg79, hI, h80⟩ := (hI.front 1).giveR (xs := y58.2.up_.map (D.int .u32)) (by simp) hR71; obtain ⟨G81, hg82, hI, h83⟩ := (hI.front 1).giveR (xs := y58.2.down_.map (D.int .u32)) (by simp) (hR76.mono hg79)
  obtain ⟨y84, hy85, hF⟩ := bd hF
  refine s_callM [.blk b27 ([.slice A62 y58.2.names_.length c63, .map A65, .slice A68 y58.2.up_.length c69, .slice A73 y58.2.down_.length c74] ++ (arCells .i64 256 y58.2.join_ ++ (arCells .i64 256 y58.2.meet_ ++ []))) 54] [] cl_26 hI hE rfl rfl (fun hIp => (lattice_Lattice_tables.ok k) _ _ hy85 _ _ _ _ _ _ _ _ _ _ _ hIp (h64.mono (hg79.trans hg82)) (h66.mono (hg79.trans hg82)) (h80.mono hg82) h83) rfl ?_; clear hE hI
  rintro a w _ G87 _ ⟨A88, c89, A91, A93, c94, A96, c97, rfl, rfl, h90, h92, h95, h98⟩ hg86 hI hE; refine run tt_ok 1 hE rfl fun a hE => ?_; refine c_end ?_; refine xT ?_
  refine c_if (b := !y84.1) hE rfl (fun hb103 => ?_) (fun hb103 => ?_)
  · replace hF := ct hb103 hF; refine c_seq ?_; refine c_reg ?_; refine run tt_ok 2 hE rfl fun a hE => ?_; refine c_end ?_; refine xT ?_; refine c_ret ?_; refine xTr ?_; cases hF
    refine r_ret (v := _) hE rfl ⟨_, _, _, rfl, hI.nil, rfl, none, rfl, Pt.nil⟩
  replace hF := cf hb103 hF; refine c_skip ?_; refine xT ?_; refine c_seq ?_; refine c_reg ?_; refine run tt_ok 3 hE rfl fun a hE => ?_; refine c_end ?_; refine xT ?_; obtain ⟨G99, hg100, hI, hA101⟩ := (hI.front 0).giveB
  have h102 : Pt G99 (some ⟨b27, 0, none⟩) 54 Tlattice_Lattice.d (some y84.2) := Pt.mk (Tlattice_Lattice.inv.2 ⟨A88, c89, A91, A93, c94, A96, c97, rfl, (h90.mono hg100), (h92.mono hg100), (h95.mono hg100), (h98.mono hg100)⟩) hA101
  refine c_ret ?_; cases hF; refine r_ret (v := _) hE rfl ⟨_, _, _, rfl, hI.nil, rfl, (some ⟨b27, 0, none⟩), rfl, h102⟩

theorem cl_28 : Callable Tryd.prog 28 := ⟨_, Tryd.func28, by kernel_rfl, by kernel_rfl⟩

def lattice_Lattice_is.C (s : (Option Tlattice_Lattice) → Int → Option Bool) : Prop := ∀ (p0 : Option Tlattice_Lattice) (p1 : Int) (r : Bool), s p0 p1 = some r → ∀ (w0 : World) (G0 : GH) (A1 : Option Addr), Inv w0 G0 [] G0 [] w0 → (Pt G0 A1 54 Tlattice_Lattice.d p0) → Calls Tryd.prog 28 #[.pointer A1, .int .i64 p1] w0 (Ret w0 G0 [] fun G' L' v => L' = [] ∧ v = .bool r)

theorem lattice_Lattice_is.ok (k : Nat) : lattice_Lattice_is.C (lattice_Lattice_is k) := by
  intro p0 p1 r hF w0 G0 A1 hI h2
  unfold lattice_Lattice_is at hF
  refine calls_of_wp Tryd.func28 rfl ?_
  have hE : Env _ 20 [(0, .pointer A1), (1, .int .i64 p1)] := Env.start ⟨[.pointer A1, .int .i64 p1]⟩ 18
  refine c_seq ?_; refine c_reg ?_; refine run tt_ok 1 hE rfl fun a hE => ?_; refine c_end ?_; refine xT ?_; refine c_seq ?_; obtain ⟨m24, hF, hR26⟩ := bd hF
  refine c_cut (fun a' w' => ∃ (G22 : GH), G0.le G22 ∧ Env a' 20 [(4, .bool m24)] ∧ Inv w0 G0 [] G22 [] w') ?_ ?_; rotate_left
  · clear hE hI; rintro a w ⟨G22, hg25, hE, hI⟩; clear hF; have hF := hR26; clear hR26; refine xT ?_; refine c_ret ?_; cases hF; refine r_ret (v := _) hE rfl ⟨_, _, _, rfl, hI.nil, rfl, rfl⟩
  refine c_reg ?_; refine run tt_ok 1 hE rfl fun a hE => ?_; refine s_rt hI hE rfl (f_pnn up_26 h2 rfl rfl) rfl fun a hE => ?_; refine run tt_ok 1 hE rfl fun a hE => ?_; rcases bool_or (!p0.isNone) with hb27 | hb27
  rotate_left
  · replace hF := cf hb27 hF; have hE := hE.tr (t := 7) rfl hb27; clear hb27; refine run tt_ok 13 hE rfl fun a hE => ?_; refine c_end ?_; refine xT ?_; cases hF; exact ⟨G0, (GH.le.refl _), hE.keep ⟨rfl, trivial⟩, hI⟩
  replace hF := ct hb27 hF; have hE := hE.tr (t := 7) rfl hb27; clear hb27; refine run tt_ok 4 hE rfl fun a hE => ?_; rcases bool_or (decide ((0 : Int) ≤ p1)) with hb28 | hb28; rotate_left
  · replace hF := cf hb28 hF; have hE := hE.tr (t := 11) rfl hb28; clear hb28; refine run tt_ok 9 hE rfl fun a hE => ?_; refine c_end ?_; refine xT ?_; cases hF; exact ⟨G0, (GH.le.refl _), hE.keep ⟨rfl, trivial⟩, hI⟩
  replace hF := ct hb28 hF; have hE := hE.tr (t := 11) rfl hb28; clear hb28; refine run tt_ok 2 hE rfl fun a hE => ?_; rcases (h2).cases with ⟨hp31, rfl⟩ | ⟨y29, b30, cs, hp31, rfl, hR32, hA33⟩
  · cases op_n hp31 hF
  replace hF := op_s hp31 hF; obtain ⟨A34, c35, A37, A39, c40, A42, c43, rfl, h36, h38, h41, h44⟩ := Tlattice_Lattice.inv.1 hR32; refine run tt_ok 2 hE rfl fun a hE => ?_
  refine s_rt hI hE rfl (f_loadG tt_ok hA33 0 rfl rfl rfl rfl) rfl fun a hE => ?_; refine run tt_ok 4 hE rfl fun a hE => ?_; refine c_end ?_; refine xT ?_; cases hF; exact ⟨G0, (GH.le.refl _), hE.keep ⟨rfl, trivial⟩, hI⟩

theorem cl_9 : Callable Tryd.prog 9 := ⟨_, Tryd.func9, by kernel_rfl, by kernel_rfl⟩

def lattice_Lattice_Leq.C (s : (Option Tlattice_Lattice) → Int → Int → Option Bool) : Prop := ∀ (p0 : Option Tlattice_Lattice) (p1 : Int) (p2 : Int) (r : Bool), s p0 p1 p2 = some r → ∀ (w0 : World) (G0 : GH) (A1 : Option Addr), Inv w0 G0 [] G0 [] w0 → (Pt G0 A1 54 Tlattice_Lattice.d p0) → Calls Tryd.prog 9 #[.pointer A1, .int .i64 p1, .int .i64 p2] w0 (Ret w0 G0 [] fun G' L' v => L' = [] ∧ v = .bool r)

theorem lattice_Lattice_Leq.ok (k : Nat) : lattice_Lattice_Leq.C (lattice_Lattice_Leq k) := by
  intro p0 p1 p2 r hF w0 G0 A1 hI h2
  unfold lattice_Lattice_Leq at hF
  refine calls_of_wp Tryd.func9 rfl ?_
  have hE : Env _ 26 [(0, .pointer A1), (1, .int .i64 p1), (2, .int .i64 p2)] := Env.start ⟨[.pointer A1, .int .i64 p1, .int .i64 p2]⟩ 23
  refine c_seq ?_; refine c_reg ?_; refine run tt_ok 1 hE rfl fun a hE => ?_; refine c_end ?_; refine xT ?_; refine c_seq ?_; obtain ⟨m43, hF, hR45⟩ := bd hF
  refine c_cut (fun a' w' => ∃ (G41 : GH), G0.le G41 ∧ Env a' 26 [(6, .bool m43)] ∧ Inv w0 G0 [] G41 [] w') ?_ ?_; rotate_left
  · clear hE hI; rintro a w ⟨G41, hg44, hE, hI⟩; clear hF; have hF := hR45; clear hR45; refine xT ?_; refine c_ret ?_; cases hF; refine r_ret (v := _) hE rfl ⟨_, _, _, rfl, hI.nil, rfl, rfl⟩
  refine c_reg ?_; refine run tt_ok 2 hE rfl fun a hE => ?_; obtain ⟨y46, hy47, hF⟩ := bd hF; refine s_call0 cl_28 hI hE rfl rfl ((lattice_Lattice_is.ok k) _ _ _ hy47 _ _ _ hI.pass0 h2) rfl ?_; clear hE hI
  rintro a w _ G49 _ ⟨rfl, rfl⟩ hg48 hI hE; refine run tt_ok 1 hE rfl fun a hE => ?_; rcases bool_or y46 with hb50 | hb50; rotate_left
  · replace hF := cf hb50 hF; have hE := hE.tr (t := 10) rfl hb50; clear hb50; refine run tt_ok 16 hE rfl fun a hE => ?_; refine c_end ?_; refine xT ?_; cases hF; exact ⟨G49, hg48, hE.keep ⟨rfl, trivial⟩, hI⟩
  replace hF := ct hb50 hF; have hE := hE.tr (t := 10) rfl hb50; clear hb50; refine run tt_ok 2 hE rfl fun a hE => ?_; obtain ⟨y51, hy52, hF⟩ := bd hF
  refine s_call0 cl_28 hI hE rfl rfl ((lattice_Lattice_is.ok k) _ _ _ hy52 _ _ _ hI.pass0 (h2.mono hg48)) rfl ?_; clear hE hI; rintro a w _ G54 _ ⟨rfl, rfl⟩ hg53 hI hE; refine run tt_ok 2 hE rfl fun a hE => ?_
  rcases bool_or y51 with hb55 | hb55; rotate_left
  · replace hF := cf hb55 hF; have hE := hE.tr (t := 15) rfl hb55; clear hb55; refine run tt_ok 11 hE rfl fun a hE => ?_; refine c_end ?_; refine xT ?_; cases hF; exact ⟨G54, (hg48.trans hg53), hE.keep ⟨rfl, trivial⟩, hI⟩
  replace hF := ct hb55 hF; have hE := hE.tr (t := 15) rfl hb55; clear hb55; refine run tt_ok 1 hE rfl fun a hE => ?_; rcases ((h2.mono (hg48.trans hg53))).cases with ⟨hp58, rfl⟩ | ⟨y56, b57, cs, hp58, rfl, hR59, hA60⟩
  · cases op_n hp58 hF
  replace hF := op_s hp58 hF; obtain ⟨A61, c62, A64, A66, c67, A69, c70, rfl, h63, h65, h68, h71⟩ := Tlattice_Lattice.inv.1 hR59; refine run tt_ok 2 hE rfl fun a hE => ?_
  refine s_rt hI hE rfl (f_loadG tt_ok hA60 2 rfl rfl rfl rfl) rfl fun a hE => ?_; refine run tt_ok 1 hE rfl fun a hE => ?_; obtain ⟨y76, hy77, hF⟩ := bd hF
  obtain ⟨b72, o73, cs, hb78, hR75, hA74⟩ := sl_at h68 (getO_some hy77).1 (getO_some hy77).2; obtain rfl := rep_int.1 hR75; refine s_rt hI hE rfl (f_idx tt_ok hb78 rfl rfl rfl) rfl fun a hE => ?_
  refine s_rt hI hE rfl (f_loadG tt_ok hA74 0 rfl rfl rfl rfl) rfl fun a hE => ?_; refine run tt_ok 1 hE rfl fun a hE => ?_; obtain ⟨y79, hy80, hF⟩ := bd hF
  refine s_call0 cl_29 hI hE rfl rfl ((lattice_set_has.ok k) _ _ _ hy80 _ _  hI.pass0 ) rfl ?_; clear hE hI; rintro a w _ G82 _ ⟨rfl, rfl⟩ hg81 hI hE; refine run tt_ok 2 hE rfl fun a hE => ?_; refine c_end ?_; refine xT ?_
  cases hF; exact ⟨G82, ((hg48.trans hg53).trans hg81), hE.keep ⟨rfl, trivial⟩, hI⟩

theorem cl_11 : Callable Tryd.prog 11 := ⟨_, Tryd.func11, by kernel_rfl, by kernel_rfl⟩

def lattice_Lattice_Join.C (s : (Option Tlattice_Lattice) → Int → Int → Option Int) : Prop := ∀ (p0 : Option Tlattice_Lattice) (p1 : Int) (p2 : Int) (r : Int), s p0 p1 p2 = some r → ∀ (w0 : World) (G0 : GH) (A1 : Option Addr), Inv w0 G0 [] G0 [] w0 → (Pt G0 A1 54 Tlattice_Lattice.d p0) → Calls Tryd.prog 11 #[.pointer A1, .int .i64 p1, .int .i64 p2] w0 (Ret w0 G0 [] fun G' L' v => L' = [] ∧ v = .int .i64 r)

theorem lattice_Lattice_Join.ok (k : Nat) : lattice_Lattice_Join.C (lattice_Lattice_Join k) := by
  intro p0 p1 p2 r hF w0 G0 A1 hI h2
  unfold lattice_Lattice_Join at hF
  refine calls_of_wp Tryd.func11 rfl ?_
  have hE : Env _ 25 [(0, .pointer A1), (1, .int .i64 p1), (2, .int .i64 p2)] := Env.start ⟨[.pointer A1, .int .i64 p1, .int .i64 p2]⟩ 22
  refine c_seq ?_; refine c_reg ?_; refine run tt_ok 1 hE rfl fun a hE => ?_; refine c_end ?_; refine xT ?_; refine c_seq ?_; refine c_seq ?_; obtain ⟨m15, hF, hR17⟩ := bd hF
  refine c_cut (fun a' w' => ∃ (G13 : GH), G0.le G13 ∧ Env a' 25 [(0, .pointer A1), (1, .int .i64 p1), (2, .int .i64 p2), (16, .bool m15)] ∧ Inv w0 G0 [] G13 [] w') ?_ ?_
  · refine c_reg ?_; refine run tt_ok 2 hE rfl fun a hE => ?_; obtain ⟨y38, hy39, hF⟩ := bd hF; refine s_call0 cl_28 hI hE rfl rfl ((lattice_Lattice_is.ok k) _ _ _ hy39 _ _ _ hI.pass0 h2) rfl ?_; clear hE hI
    rintro a w _ G41 _ ⟨rfl, rfl⟩ hg40 hI hE; refine run tt_ok 2 hE rfl fun a hE => ?_; rcases bool_or (!y38) with hb42 | hb42
    · replace hF := ct hb42 hF; have hE := hE.tr (t := 11) rfl hb42; clear hb42; refine run tt_ok 5 hE rfl fun a hE => ?_; refine c_end ?_; refine xT ?_; cases hF; exact ⟨G41, hg40, hE.keep ⟨rfl, rfl, rfl, rfl, trivial⟩, hI⟩
    replace hF := cf hb42 hF; have hE := hE.tr (t := 11) rfl hb42; clear hb42; refine run tt_ok 2 hE rfl fun a hE => ?_; obtain ⟨y43, hy44, hF⟩ := bd hF
    refine s_call0 cl_28 hI hE rfl rfl ((lattice_Lattice_is.ok k) _ _ _ hy44 _ _ _ hI.pass0 (h2.mono hg40)) rfl ?_; clear hE hI; rintro a w _ G46 _ ⟨rfl, rfl⟩ hg45 hI hE; refine run tt_ok 2 hE rfl fun a hE => ?_
    refine c_end ?_; refine xT ?_; cases hF; exact ⟨G46, (hg40.trans hg45), hE.keep ⟨rfl, rfl, rfl, rfl, trivial⟩, hI⟩
  clear hE hI; rintro a w ⟨G13, hg16, hE, hI⟩; clear hF; have hF := hR17; clear hR17; refine xT ?_; refine c_if (b := m15) hE rfl (fun hb37 => ?_) (fun hb37 => ?_)
  · replace hF := ct hb37 hF; refine c_seq ?_; refine c_reg ?_; refine run tt_ok 1 hE rfl fun a hE => ?_; refine c_end ?_; refine xT ?_; refine c_ret ?_; refine xTr ?_; cases hF
    refine r_ret (v := _) hE rfl ⟨_, _, _, rfl, hI.nil, rfl, rfl⟩
  replace hF := cf hb37 hF; refine c_skip ?_; refine xT ?_; refine c_seq ?_; refine c_reg ?_; refine run tt_ok 3 hE rfl fun a hE => ?_; rcases ((h2.mono hg16)).cases with ⟨hp21, rfl⟩ | ⟨y19, b20, cs, hp21, rfl, hR22, hA23⟩
  · cases op_n hp21 hF
  replace hF := op_s hp21 hF; obtain ⟨A24, c25, A27, A29, c30, A32, c33, rfl, h26, h28, h31, h34⟩ := Tlattice_Lattice.inv.1 hR22; refine run tt_ok 2 hE rfl fun a hE => ?_; obtain ⟨_, hb35, hF⟩ := bd hF
  refine s_rt hI hE rfl (f_aidx tt_ok ua_52 rfl rfl rfl rfl hb35) rfl fun a hE => ?_; obtain ⟨_, hb36, hF⟩ := bd hF; refine s_rt hI hE rfl (f_aidx tt_ok ua_51 rfl rfl rfl rfl hb36) rfl fun a hE => ?_
  refine s_rt hI hE rfl (f_loadG (off := 4 + p1.toNat * 16 + p2.toNat * 1) tt_ok hA23 rfl (Nat.zero_add _).symm rfl (ar_ld2 (pre := [.slice A24 y19.names_.length c25, .map A27, .slice A29 y19.up_.length c30, .slice A32 y19.down_.length c33]) rfl (by simp [arCells]) (ar_ij hb35 hb36))) rfl fun a hE => ?_
  refine run tt_ok 1 hE rfl fun a hE => ?_; refine c_end ?_; refine xT ?_; refine c_ret ?_; cases hF; refine r_ret (v := _) hE rfl ⟨_, _, _, rfl, hI.nil, rfl, rfl⟩

theorem cl_13 : Callable Tryd.prog 13 := ⟨_, Tryd.func13, by kernel_rfl, by kernel_rfl⟩

def lattice_Lattice_Meet.C (s : (Option Tlattice_Lattice) → Int → Int → Option Int) : Prop := ∀ (p0 : Option Tlattice_Lattice) (p1 : Int) (p2 : Int) (r : Int), s p0 p1 p2 = some r → ∀ (w0 : World) (G0 : GH) (A1 : Option Addr), Inv w0 G0 [] G0 [] w0 → (Pt G0 A1 54 Tlattice_Lattice.d p0) → Calls Tryd.prog 13 #[.pointer A1, .int .i64 p1, .int .i64 p2] w0 (Ret w0 G0 [] fun G' L' v => L' = [] ∧ v = .int .i64 r)

theorem lattice_Lattice_Meet.ok (k : Nat) : lattice_Lattice_Meet.C (lattice_Lattice_Meet k) := by
  intro p0 p1 p2 r hF w0 G0 A1 hI h2
  unfold lattice_Lattice_Meet at hF
  refine calls_of_wp Tryd.func13 rfl ?_
  have hE : Env _ 25 [(0, .pointer A1), (1, .int .i64 p1), (2, .int .i64 p2)] := Env.start ⟨[.pointer A1, .int .i64 p1, .int .i64 p2]⟩ 22
  refine c_seq ?_; refine c_reg ?_; refine run tt_ok 1 hE rfl fun a hE => ?_; refine c_end ?_; refine xT ?_; refine c_seq ?_; refine c_seq ?_; obtain ⟨m15, hF, hR17⟩ := bd hF
  refine c_cut (fun a' w' => ∃ (G13 : GH), G0.le G13 ∧ Env a' 25 [(0, .pointer A1), (1, .int .i64 p1), (2, .int .i64 p2), (16, .bool m15)] ∧ Inv w0 G0 [] G13 [] w') ?_ ?_
  · refine c_reg ?_; refine run tt_ok 2 hE rfl fun a hE => ?_; obtain ⟨y38, hy39, hF⟩ := bd hF; refine s_call0 cl_28 hI hE rfl rfl ((lattice_Lattice_is.ok k) _ _ _ hy39 _ _ _ hI.pass0 h2) rfl ?_; clear hE hI
    rintro a w _ G41 _ ⟨rfl, rfl⟩ hg40 hI hE; refine run tt_ok 2 hE rfl fun a hE => ?_; rcases bool_or (!y38) with hb42 | hb42
    · replace hF := ct hb42 hF; have hE := hE.tr (t := 11) rfl hb42; clear hb42; refine run tt_ok 5 hE rfl fun a hE => ?_; refine c_end ?_; refine xT ?_; cases hF; exact ⟨G41, hg40, hE.keep ⟨rfl, rfl, rfl, rfl, trivial⟩, hI⟩
    replace hF := cf hb42 hF; have hE := hE.tr (t := 11) rfl hb42; clear hb42; refine run tt_ok 2 hE rfl fun a hE => ?_; obtain ⟨y43, hy44, hF⟩ := bd hF
    refine s_call0 cl_28 hI hE rfl rfl ((lattice_Lattice_is.ok k) _ _ _ hy44 _ _ _ hI.pass0 (h2.mono hg40)) rfl ?_; clear hE hI; rintro a w _ G46 _ ⟨rfl, rfl⟩ hg45 hI hE; refine run tt_ok 2 hE rfl fun a hE => ?_
    refine c_end ?_; refine xT ?_; cases hF; exact ⟨G46, (hg40.trans hg45), hE.keep ⟨rfl, rfl, rfl, rfl, trivial⟩, hI⟩
  clear hE hI; rintro a w ⟨G13, hg16, hE, hI⟩; clear hF; have hF := hR17; clear hR17; refine xT ?_; refine c_if (b := m15) hE rfl (fun hb37 => ?_) (fun hb37 => ?_)
  · replace hF := ct hb37 hF; refine c_seq ?_; refine c_reg ?_; refine run tt_ok 1 hE rfl fun a hE => ?_; refine c_end ?_; refine xT ?_; refine c_ret ?_; refine xTr ?_; cases hF
    refine r_ret (v := _) hE rfl ⟨_, _, _, rfl, hI.nil, rfl, rfl⟩
  replace hF := cf hb37 hF; refine c_skip ?_; refine xT ?_; refine c_seq ?_; refine c_reg ?_; refine run tt_ok 3 hE rfl fun a hE => ?_; rcases ((h2.mono hg16)).cases with ⟨hp21, rfl⟩ | ⟨y19, b20, cs, hp21, rfl, hR22, hA23⟩
  · cases op_n hp21 hF
  replace hF := op_s hp21 hF; obtain ⟨A24, c25, A27, A29, c30, A32, c33, rfl, h26, h28, h31, h34⟩ := Tlattice_Lattice.inv.1 hR22; refine run tt_ok 2 hE rfl fun a hE => ?_; obtain ⟨_, hb35, hF⟩ := bd hF
  refine s_rt hI hE rfl (f_aidx tt_ok ua_52 rfl rfl rfl rfl hb35) rfl fun a hE => ?_; obtain ⟨_, hb36, hF⟩ := bd hF; refine s_rt hI hE rfl (f_aidx tt_ok ua_51 rfl rfl rfl rfl hb36) rfl fun a hE => ?_
  refine s_rt hI hE rfl (f_loadG (off := 260 + p1.toNat * 16 + p2.toNat * 1) tt_ok hA23 rfl (Nat.zero_add _).symm rfl (ar_ld2 (pre := ([.slice A24 y19.names_.length c25, .map A27, .slice A29 y19.up_.length c30, .slice A32 y19.down_.length c33] ++ (arCells .i64 256 y19.join_ ++ []))) rfl (by simp [arCells]) (ar_ij hb35 hb36))) rfl fun a hE => ?_
  refine run tt_ok 1 hE rfl fun a hE => ?_; refine c_end ?_; refine xT ?_; refine c_ret ?_; cases hF; refine r_ret (v := _) hE rfl ⟨_, _, _, rfl, hI.nil, rfl, rfl⟩

theorem cl_22 : Callable Tryd.prog 22 := ⟨_, Tryd.func22, by kernel_rfl, by kernel_rfl⟩

def law03_diamond.C (s : Option ((List ByteArray) × (List TPair))) : Prop := ∀  (r : (List ByteArray) × (List TPair)), s  = some r → ∀ (w0 : World) (G0 : GH) , Inv w0 G0 [] G0 [] w0 → Calls Tryd.prog 22 #[] w0 (Ret w0 G0 [] fun G' L' v => L' = [] ∧ ∃ A0 c0 A1 c1, v = .tuple ⟨[.slice A0 r.1.length c0, .slice A1 r.2.length c1]⟩ ∧ Sl G' A0 c0 1 (r.1.map D.str) ∧ Sl G' A1 c1 2 (r.2.map TPair.d))

theorem law03_diamond.ok (k : Nat) : law03_diamond.C (law03_diamond k) := by
  intro  r hF w0 G0  hI 
  unfold law03_diamond at hF
  refine calls_of_wp Tryd.func22 rfl ?_
  have hE : Env _ 8 [] := Env.start ⟨[]⟩ 8
  refine c_seq ?_; refine c_reg ?_; refine run tt_ok 2 hE rfl fun a hE => ?_; refine c_end ?_; refine xT ?_; refine c_seq ?_; refine c_reg ?_; refine s_bsl ai_22 hI hE rfl rfl rfl rfl rfl fun a w b1 hE hI => ?_
  have hR3 : RL G0 1 ([(⟨#[108, 111, 119]⟩ : ByteArray), (⟨#[97]⟩ : ByteArray), (⟨#[98]⟩ : ByteArray), (⟨#[104, 105, 103, 104]⟩ : ByteArray)].map D.str) [.string (⟨#[108, 111, 119]⟩ : ByteArray), .string (⟨#[97]⟩ : ByteArray), .string (⟨#[98]⟩ : ByteArray), .string (⟨#[104, 105, 103, 104]⟩ : ByteArray)] := (RL.cons (rep_str.2 rfl) rfl (RL.cons (rep_str.2 rfl) rfl (RL.cons (rep_str.2 rfl) rfl (RL.cons (rep_str.2 rfl) rfl RL.nil))))
  refine s_rt hI hE rfl (f_build tt_ok rfl z_45 rfl rfl) rfl fun a hE => ?_; refine s_rt hI hE rfl (f_build tt_ok rfl z_45 rfl rfl) rfl fun a hE => ?_
  refine s_rt hI hE rfl (f_build tt_ok rfl z_45 rfl rfl) rfl fun a hE => ?_; refine s_rt hI hE rfl (f_build tt_ok rfl z_45 rfl rfl) rfl fun a hE => ?_; refine s_bsl ai_23 hI hE rfl rfl rfl rfl rfl fun a w b4 hE hI => ?_
  have hR6 : RL G0 2 ([(TPair.mk (⟨#[108, 111, 119]⟩ : ByteArray) (⟨#[97]⟩ : ByteArray)), (TPair.mk (⟨#[108, 111, 119]⟩ : ByteArray) (⟨#[98]⟩ : ByteArray)), (TPair.mk (⟨#[97]⟩ : ByteArray) (⟨#[104, 105, 103, 104]⟩ : ByteArray)), (TPair.mk (⟨#[98]⟩ : ByteArray) (⟨#[104, 105, 103, 104]⟩ : ByteArray))].map TPair.d) [.string (⟨#[108, 111, 119]⟩ : ByteArray), .string (⟨#[97]⟩ : ByteArray), .string (⟨#[108, 111, 119]⟩ : ByteArray), .string (⟨#[98]⟩ : ByteArray), .string (⟨#[97]⟩ : ByteArray), .string (⟨#[104, 105, 103, 104]⟩ : ByteArray), .string (⟨#[98]⟩ : ByteArray), .string (⟨#[104, 105, 103, 104]⟩ : ByteArray)] := (RL.cons (TPair.inv.2 rfl) rfl (RL.cons (TPair.inv.2 rfl) rfl (RL.cons (TPair.inv.2 rfl) rfl (RL.cons (TPair.inv.2 rfl) rfl RL.nil))))
  refine run tt_ok 2 hE rfl fun a hE => ?_; refine c_end ?_; refine xT ?_
  obtain ⟨G7, hg8, hI, h9⟩ := (hI.front 1).giveR (xs := ([(⟨#[108, 111, 119]⟩ : ByteArray), (⟨#[97]⟩ : ByteArray), (⟨#[98]⟩ : ByteArray), (⟨#[104, 105, 103, 104]⟩ : ByteArray)]).map D.str) (by simp) hR3
  obtain ⟨G10, hg11, hI, h12⟩ := (hI.front 0).giveR (xs := ([(TPair.mk (⟨#[108, 111, 119]⟩ : ByteArray) (⟨#[97]⟩ : ByteArray)), (TPair.mk (⟨#[108, 111, 119]⟩ : ByteArray) (⟨#[98]⟩ : ByteArray)), (TPair.mk (⟨#[97]⟩ : ByteArray) (⟨#[104, 105, 103, 104]⟩ : ByteArray)), (TPair.mk (⟨#[98]⟩ : ByteArray) (⟨#[104, 105, 103, 104]⟩ : ByteArray))]).map TPair.d) (by simp) (hR6.mono hg8)
  refine c_ret ?_; cases hF; refine r_ret (v := _) hE rfl ⟨_, _, _, rfl, hI.nil, rfl, (some ⟨b1, 0, none⟩), 4, (some ⟨b4, 0, none⟩), 4, rfl, (h9.mono hg11), h12⟩

theorem cl_6 : Callable Tryd.prog 6 := ⟨_, Tryd.func6, by kernel_rfl, by kernel_rfl⟩

def law03_alive.C (s : Option Bool) : Prop := ∀  (r : Bool), s  = some r → ∀ (w0 : World) (G0 : GH) , Inv w0 G0 [] G0 [] w0 → Calls Tryd.prog 6 #[] w0 (Ret w0 G0 [] fun G' L' v => L' = [] ∧ v = .bool r)

theorem law03_alive.ok (k : Nat) : law03_alive.C (law03_alive k) := by
  intro  r hF w0 G0  hI 
  unfold law03_alive at hF
  refine calls_of_wp Tryd.func6 rfl ?_
  have hE : Env _ 54 [] := Env.start ⟨[]⟩ 54
  refine c_seq ?_; refine c_reg ?_; refine run tt_ok 1 hE rfl fun a hE => ?_; refine c_end ?_; refine xT ?_; refine c_seq ?_; refine c_reg ?_; obtain ⟨y9, hy10, hF⟩ := bd hF
  refine s_call0 cl_22 hI hE rfl rfl ((law03_diamond.ok k) _ hy10 _ _  hI.pass0 ) rfl ?_; clear hE hI; rintro a w _ G12 _ ⟨rfl, A13, c14, A16, c17, rfl, h15, h18⟩ hg11 hI hE; refine run tt_ok 5 hE rfl fun a hE => ?_
  refine c_end ?_; refine xT ?_; refine c_seq ?_; refine c_reg ?_; refine run tt_ok 2 hE rfl fun a hE => ?_; obtain ⟨y23, hy24, hF⟩ := bd hF
  refine s_call0 cl_7 hI hE rfl rfl ((lattice_New.ok k) _ _ _ hy24 _ _ _ _ _ _ hI.pass0 h15 h18) rfl ?_; clear hE hI; rintro a w _ G26 _ ⟨rfl, A27, rfl, h28⟩ hg25 hI hE; refine run tt_ok 5 hE rfl fun a hE => ?_
  refine c_end ?_; refine xT ?_; refine c_seq ?_; refine c_mix [4] [(0, 0), (1, 0), (2, 0), (3, 0), (4, 3), (5, 0), (6, 0), (7, 0), (8, 0), (9, 0)] [] mixed (by kernel_rfl) hI ?_; clear hI; intro w hI
  have hS := hI.sw (Ls := []) [] (by decide) rfl (GH.le.refl _); refine mix_run tt_ok 1 hE rfl fun a hE => ?_; obtain ⟨z59, hz60, hF⟩ := bd hF
  obtain ⟨A61, c62, h63, hrt64⟩ := f_cut (t := 22) (x := .tmp 18) (lo := none) (hi := some (.const (.int .i64 3))) tt_ok hE rfl (h15.mono hg25) rfl rfl rfl hz60; refine d_rt hE rfl rfl (hrt64 _) rfl fun a hE => ?_
  refine mix_run tt_ok 1 hE rfl fun a hE => ?_; obtain ⟨z65, hz66, hF⟩ := bd hF
  obtain ⟨A67, c68, h69, hrt70⟩ := f_cut (t := 23) (x := .tmp 20) (lo := none) (hi := some (.const (.int .i64 2))) tt_ok hE rfl (h18.mono hg25) rfl rfl rfl hz66; refine d_rt hE rfl rfl (hrt70 _) rfl fun a hE => ?_
  refine d_last rfl ?_; obtain ⟨y71, hy72, hF⟩ := bd hF; refine s_call0 cl_7 hI hE rfl rfl ((lattice_New.ok k) _ _ _ hy72 _ _ _ _ _ _ hI.pass0 h63 h69) rfl ?_; clear hE hI; rintro a w _ G74 _ ⟨rfl, A75, rfl, h76⟩ hg73 hI hE
  refine d_nextl ?_; refine mix_run tt_ok 5 hE rfl fun a hE => ?_; refine d_end ?_; refine xT ?_; refine c_seq ?_; obtain ⟨m102, hF, hR104⟩ := bd hF
  refine c_cut (fun a' w' => ∃ (G100 : GH), G74.le G100 ∧ Env a' 54 [(0, .bool m102)] ∧ Inv w0 G0 [] G100 [] w') ?_ ?_; rotate_left
  · clear hE hI; rintro a w ⟨G100, hg103, hE, hI⟩; clear hF; have hF := hR104; clear hR104; refine xT ?_; refine c_ret ?_; cases hF; refine r_ret (v := _) hE rfl ⟨_, _, _, rfl, hI.nil, rfl, rfl⟩
  refine c_reg ?_; refine run tt_ok 1 hE rfl fun a hE => ?_; refine s_rt hI hE rfl (f_pnn up_26 (h28.mono hg73) rfl rfl) rfl fun a hE => ?_; refine run tt_ok 1 hE rfl fun a hE => ?_
  rcases bool_or (!y23.1.isNone) with hb105 | hb105; rotate_left
  · replace hF := cf hb105 hF; have hE := hE.tr (t := 27) rfl hb105; clear hb105; refine run tt_ok 27 hE rfl fun a hE => ?_; refine c_end ?_; refine xT ?_; cases hF; exact ⟨G74, (GH.le.refl _), hE.keep ⟨rfl, trivial⟩, hI⟩
  replace hF := ct hb105 hF; have hE := hE.tr (t := 27) rfl hb105; clear hb105; refine run tt_ok 4 hE rfl fun a hE => ?_; rcases bool_or (decide (y23.2 = (0 : Int))) with hb106 | hb106; rotate_left
  · replace hF := cf hb106 hF; have hE := hE.tr (t := 31) rfl hb106; clear hb106; refine run tt_ok 23 hE rfl fun a hE => ?_; refine c_end ?_; refine xT ?_; cases hF; exact ⟨G74, (GH.le.refl _), hE.keep ⟨rfl, trivial⟩, hI⟩
  replace hF := ct hb106 hF; have hE := hE.tr (t := 31) rfl hb106; clear hb106; refine run tt_ok 4 hE rfl fun a hE => ?_; rcases bool_or (decide (y71.2 = (12 : Int))) with hb107 | hb107; rotate_left
  · replace hF := cf hb107 hF; have hE := hE.tr (t := 35) rfl hb107; clear hb107; refine run tt_ok 19 hE rfl fun a hE => ?_; refine c_end ?_; refine xT ?_; cases hF; exact ⟨G74, (GH.le.refl _), hE.keep ⟨rfl, trivial⟩, hI⟩
  replace hF := ct hb107 hF; have hE := hE.tr (t := 35) rfl hb107; clear hb107; refine run tt_ok 1 hE rfl fun a hE => ?_; obtain ⟨y108, hy109, hF⟩ := bd hF
  refine s_call0 cl_11 hI hE rfl rfl ((lattice_Lattice_Join.ok k) _ _ _ _ hy109 _ _ _ hI.pass0 (h28.mono hg73)) rfl ?_; clear hE hI; rintro a w _ G111 _ ⟨rfl, rfl⟩ hg110 hI hE; refine run tt_ok 3 hE rfl fun a hE => ?_
  rcases bool_or (decide (y108 = (3 : Int))) with hb112 | hb112; rotate_left
  · replace hF := cf hb112 hF; have hE := hE.tr (t := 40) rfl hb112; clear hb112; refine run tt_ok 14 hE rfl fun a hE => ?_; refine c_end ?_; refine xT ?_; cases hF; exact ⟨G111, hg110, hE.keep ⟨rfl, trivial⟩, hI⟩
  replace hF := ct hb112 hF; have hE := hE.tr (t := 40) rfl hb112; clear hb112; refine run tt_ok 1 hE rfl fun a hE => ?_; obtain ⟨y113, hy114, hF⟩ := bd hF
  refine s_call0 cl_13 hI hE rfl rfl ((lattice_Lattice_Meet.ok k) _ _ _ _ hy114 _ _ _ hI.pass0 (h28.mono (hg73.trans hg110))) rfl ?_; clear hE hI; rintro a w _ G116 _ ⟨rfl, rfl⟩ hg115 hI hE
  refine run tt_ok 3 hE rfl fun a hE => ?_; rcases bool_or (decide (y113 = (0 : Int))) with hb117 | hb117; rotate_left
  · replace hF := cf hb117 hF; have hE := hE.tr (t := 45) rfl hb117; clear hb117; refine run tt_ok 9 hE rfl fun a hE => ?_; refine c_end ?_; refine xT ?_; cases hF
    exact ⟨G116, (hg110.trans hg115), hE.keep ⟨rfl, trivial⟩, hI⟩
  replace hF := ct hb117 hF; have hE := hE.tr (t := 45) rfl hb117; clear hb117; refine run tt_ok 1 hE rfl fun a hE => ?_; obtain ⟨y118, hy119, hF⟩ := bd hF
  refine s_call0 cl_9 hI hE rfl rfl ((lattice_Lattice_Leq.ok k) _ _ _ _ hy119 _ _ _ hI.pass0 (h28.mono ((hg73.trans hg110).trans hg115))) rfl ?_; clear hE hI; rintro a w _ G121 _ ⟨rfl, rfl⟩ hg120 hI hE
  refine run tt_ok 2 hE rfl fun a hE => ?_; rcases bool_or y118 with hb122 | hb122; rotate_left
  · replace hF := cf hb122 hF; have hE := hE.tr (t := 49) rfl hb122; clear hb122; refine run tt_ok 5 hE rfl fun a hE => ?_; refine c_end ?_; refine xT ?_; cases hF
    exact ⟨G121, ((hg110.trans hg115).trans hg120), hE.keep ⟨rfl, trivial⟩, hI⟩
  replace hF := ct hb122 hF; have hE := hE.tr (t := 49) rfl hb122; clear hb122; refine run tt_ok 1 hE rfl fun a hE => ?_; obtain ⟨y123, hy124, hF⟩ := bd hF
  refine s_call0 cl_9 hI hE rfl rfl ((lattice_Lattice_Leq.ok k) _ _ _ _ hy124 _ _ _ hI.pass0 (h28.mono (((hg73.trans hg110).trans hg115).trans hg120))) rfl ?_; clear hE hI; rintro a w _ G126 _ ⟨rfl, rfl⟩ hg125 hI hE
  refine run tt_ok 3 hE rfl fun a hE => ?_; refine c_end ?_; refine xT ?_; cases hF; exact ⟨G126, (((hg110.trans hg115).trans hg120).trans hg125), hE.keep ⟨rfl, trivial⟩, hI⟩

theorem cl_30 : Callable Tryd.prog 30 := ⟨_, Tryd.func30, by kernel_rfl, by kernel_rfl⟩

def ref03_Lattice_Is.C (s : (Option Tref03_Lattice) → Int → Option Bool) : Prop := ∀ (p0 : Option Tref03_Lattice) (p1 : Int) (r : Bool), s p0 p1 = some r → ∀ (w0 : World) (G0 : GH) (A1 : Option Addr), Inv w0 G0 [] G0 [] w0 → (Pt G0 A1 60 Tref03_Lattice.d p0) → Calls Tryd.prog 30 #[.pointer A1, .int .i64 p1] w0 (Ret w0 G0 [] fun G' L' v => L' = [] ∧ v = .bool r)

theorem ref03_Lattice_Is.ok (k : Nat) : ref03_Lattice_Is.C (ref03_Lattice_Is k) := by
  intro p0 p1 r hF w0 G0 A1 hI h2
  unfold ref03_Lattice_Is at hF
  refine calls_of_wp Tryd.func30 rfl ?_
  have hE : Env _ 16 [(0, .pointer A1), (1, .int .i64 p1)] := Env.start ⟨[.pointer A1, .int .i64 p1]⟩ 14
  refine c_seq ?_; refine c_reg ?_; refine run tt_ok 1 hE rfl fun a hE => ?_; refine c_end ?_; refine xT ?_; refine c_seq ?_; obtain ⟨m17, hF, hR19⟩ := bd hF
  refine c_cut (fun a' w' => ∃ (G15 : GH), G0.le G15 ∧ Env a' 16 [(4, .bool m17)] ∧ Inv w0 G0 [] G15 [] w') ?_ ?_; rotate_left
  · clear hE hI; rintro a w ⟨G15, hg18, hE, hI⟩; clear hF; have hF := hR19; clear hR19; refine xT ?_; refine c_ret ?_; cases hF; refine r_ret (v := _) hE rfl ⟨_, _, _, rfl, hI.nil, rfl, rfl⟩
  refine c_reg ?_; refine run tt_ok 3 hE rfl fun a hE => ?_; rcases bool_or (decide ((0 : Int) ≤ p1)) with hb20 | hb20; rotate_left
  · replace hF := cf hb20 hF; have hE := hE.tr (t := 7) rfl hb20; clear hb20; refine run tt_ok 9 hE rfl fun a hE => ?_; refine c_end ?_; refine xT ?_; cases hF; exact ⟨G0, (GH.le.refl _), hE.keep ⟨rfl, trivial⟩, hI⟩
  replace hF := ct hb20 hF; have hE := hE.tr (t := 7) rfl hb20; clear hb20; refine run tt_ok 2 hE rfl fun a hE => ?_; rcases (h2).cases with ⟨hp23, rfl⟩ | ⟨y21, b22, cs, hp23, rfl, hR24, hA25⟩
  · cases op_n hp23 hF
  replace hF := op_s hp23 hF; obtain ⟨A26, c27, A29, c30, rfl, h28, h31⟩ := Tref03_Lattice.inv.1 hR24; refine run tt_ok 2 hE rfl fun a hE => ?_
  refine s_rt hI hE rfl (f_loadG tt_ok hA25 0 rfl rfl rfl rfl) rfl fun a hE => ?_; refine run tt_ok 4 hE rfl fun a hE => ?_; refine c_end ?_; refine xT ?_; cases hF; exact ⟨G0, (GH.le.refl _), hE.keep ⟨rfl, trivial⟩, hI⟩

theorem cl_10 : Callable Tryd.prog 10 := ⟨_, Tryd.func10, by kernel_rfl, by kernel_rfl⟩

def ref03_Lattice_Leq.C (s : (Option Tref03_Lattice) → Int → Int → Option Bool) : Prop := ∀ (p0 : Option Tref03_Lattice) (p1 : Int) (p2 : Int) (r : Bool), s p0 p1 p2 = some r → ∀ (w0 : World) (G0 : GH) (A1 : Option Addr), Inv w0 G0 [] G0 [] w0 → (Pt G0 A1 60 Tref03_Lattice.d p0) → Calls Tryd.prog 10 #[.pointer A1, .int .i64 p1, .int .i64 p2] w0 (Ret w0 G0 [] fun G' L' v => L' = [] ∧ v = .bool r)

theorem ref03_Lattice_Leq.ok (k : Nat) : ref03_Lattice_Leq.C (ref03_Lattice_Leq k) := by
  intro p0 p1 p2 r hF w0 G0 A1 hI h2
  unfold ref03_Lattice_Leq at hF
  refine calls_of_wp Tryd.func10 rfl ?_
  have hE : Env _ 27 [(0, .pointer A1), (1, .int .i64 p1), (2, .int .i64 p2)] := Env.start ⟨[.pointer A1, .int .i64 p1, .int .i64 p2]⟩ 24
  refine c_seq ?_; refine c_reg ?_; refine run tt_ok 1 hE rfl fun a hE => ?_; refine c_end ?_; refine xT ?_; refine c_seq ?_; obtain ⟨m44, hF, hR46⟩ := bd hF
  refine c_cut (fun a' w' => ∃ (G42 : GH), G0.le G42 ∧ Env a' 27 [(6, .bool m44)] ∧ Inv w0 G0 [] G42 [] w') ?_ ?_; rotate_left
  · clear hE hI; rintro a w ⟨G42, hg45, hE, hI⟩; clear hF; have hF := hR46; clear hR46; refine xT ?_; refine c_ret ?_; cases hF; refine r_ret (v := _) hE rfl ⟨_, _, _, rfl, hI.nil, rfl, rfl⟩
  refine c_reg ?_; refine run tt_ok 2 hE rfl fun a hE => ?_; obtain ⟨y47, hy48, hF⟩ := bd hF; refine s_call0 cl_30 hI hE rfl rfl ((ref03_Lattice_Is.ok k) _ _ _ hy48 _ _ _ hI.pass0 h2) rfl ?_; clear hE hI
  rintro a w _ G50 _ ⟨rfl, rfl⟩ hg49 hI hE; refine run tt_ok 1 hE rfl fun a hE => ?_; rcases bool_or y47 with hb51 | hb51; rotate_left
  · replace hF := cf hb51 hF; have hE := hE.tr (t := 10) rfl hb51; clear hb51; refine run tt_ok 17 hE rfl fun a hE => ?_; refine c_end ?_; refine xT ?_; cases hF; exact ⟨G50, hg49, hE.keep ⟨rfl, trivial⟩, hI⟩
  replace hF := ct hb51 hF; have hE := hE.tr (t := 10) rfl hb51; clear hb51; refine run tt_ok 2 hE rfl fun a hE => ?_; obtain ⟨y52, hy53, hF⟩ := bd hF
  refine s_call0 cl_30 hI hE rfl rfl ((ref03_Lattice_Is.ok k) _ _ _ hy53 _ _ _ hI.pass0 (h2.mono hg49)) rfl ?_; clear hE hI; rintro a w _ G55 _ ⟨rfl, rfl⟩ hg54 hI hE; refine run tt_ok 2 hE rfl fun a hE => ?_
  rcases bool_or y52 with hb56 | hb56; rotate_left
  · replace hF := cf hb56 hF; have hE := hE.tr (t := 15) rfl hb56; clear hb56; refine run tt_ok 12 hE rfl fun a hE => ?_; refine c_end ?_; refine xT ?_; cases hF; exact ⟨G55, (hg49.trans hg54), hE.keep ⟨rfl, trivial⟩, hI⟩
  replace hF := ct hb56 hF; have hE := hE.tr (t := 15) rfl hb56; clear hb56; refine run tt_ok 1 hE rfl fun a hE => ?_; rcases ((h2.mono (hg49.trans hg54))).cases with ⟨hp59, rfl⟩ | ⟨y57, b58, cs, hp59, rfl, hR60, hA61⟩
  · cases op_n hp59 hF
  replace hF := op_s hp59 hF; obtain ⟨A62, c63, A65, c66, rfl, h64, h67⟩ := Tref03_Lattice.inv.1 hR60; refine run tt_ok 2 hE rfl fun a hE => ?_
  refine s_rt hI hE rfl (f_loadG tt_ok hA61 1 rfl rfl rfl rfl) rfl fun a hE => ?_; refine run tt_ok 1 hE rfl fun a hE => ?_; obtain ⟨y72, hy73, hF⟩ := bd hF
  obtain ⟨b68, o69, cs, hb77, hR71, hA70⟩ := sl_at h67 (getO_some hy73).1 (getO_some hy73).2; obtain ⟨A74, c75, rfl, h76⟩ := rep_slm.1 hR71; refine s_rt hI hE rfl (f_idx tt_ok hb77 rfl rfl rfl) rfl fun a hE => ?_
  refine s_rt hI hE rfl (f_loadG tt_ok hA70 0 rfl rfl rfl rfl) rfl fun a hE => ?_; refine run tt_ok 1 hE rfl fun a hE => ?_; obtain ⟨y82, hy83, hF⟩ := bd hF
  obtain ⟨b78, o79, cs, hb84, hR81, hA80⟩ := sl_at h76 (getO_some hy83).1 (getO_some hy83).2; obtain rfl := rep_bool.1 hR81; refine s_rt hI hE rfl (f_idx tt_ok hb84 rfl rfl rfl) rfl fun a hE => ?_
  refine s_rt hI hE rfl (f_loadG tt_ok hA80 0 rfl rfl rfl rfl) rfl fun a hE => ?_; refine run tt_ok 2 hE rfl fun a hE => ?_; refine c_end ?_; refine xT ?_; cases hF
  exact ⟨G55, (hg49.trans hg54), hE.keep ⟨rfl, trivial⟩, hI⟩
end Go.Proofs.YtliaopbgkcdibaaDoor
