/- The contracts: what the machine does at a call is what the plain function says. Written by mk.py. -/
import Derived.Test.YtliaopbgkcdibaaCgS0
import Derived.Test.YtliaopbgkcdibaaCgS1
import Derived.Test.YtliaopbgkcdibaaCgS2
set_option linter.unusedVariables false
set_option linter.unusedSimpArgs false
set_option maxRecDepth 100000
namespace Go.Proofs.Ytliaopbgkcdibaa
open Go.RowKit
theorem lattice_Lattice_tables.ok (k : Nat) : lattice_Lattice_tables.C (lattice_Lattice_tables k) := by
  intro p0 r hF w0 G0 D0 b1 A2 c3 A5 A7 c8 A10 c11 hI h4 h6 h9 h12
  unfold lattice_Lattice_tables at hF
  refine calls_of_wp Try.func45 rfl ?_
  have hE : Env _ 118 [(0, .pointer (some ⟨b1, 0, none⟩))] := Env.start ⟨[.pointer (some ⟨b1, 0, none⟩)]⟩ 117
  refine c_seq ?_; refine c_reg ?_; refine run tt_ok 1 hE rfl fun a hE => ?_; refine c_end ?_; refine xT ?_; refine c_seq ?_; refine c_seq ?_; refine c_reg ?_; refine run tt_ok 3 hE rfl fun a hE => ?_
  refine s_rt hI hE rfl (f_loadB tt_ok 0 rfl rfl rfl rfl) rfl fun a hE => ?_; refine run tt_ok 2 hE rfl fun a hE => ?_; refine c_end ?_; refine xT ?_; obtain ⟨o887, hO888, hK889⟩ := bd hF; clear hF
  refine c_cut (fun a' w' => ∃ (s891 : (List Int) × (List Int)) (G892 : GH), o887 = .go s891 ∧ G0.le G892 ∧ Env a' 118 [(0, .pointer (some ⟨b1, 0, none⟩))] ∧ Inv w0 G0 D0 G892 [.blk b1 ([.slice A2 p0.names_.length c3, .map A5, .slice A7 p0.up_.length c8, .slice A10 p0.down_.length c11] ++ (arCells .i64 256 s891.1 ++ (arCells .i64 256 s891.2 ++ []))) 78] w') ?_ ?_
  rotate_left
  · clear hE hI hO888; rintro a w ⟨s891, G892, rfl, hg895, hE, hI⟩; have hF := lrk_go hK889; clear hK889; refine xT ?_; refine c_seq ?_; refine c_reg ?_; refine run tt_ok 3 hE rfl fun a hE => ?_
    refine s_rt hI hE rfl (f_loadB tt_ok 0 rfl rfl rfl rfl) rfl fun a hE => ?_; refine run tt_ok 3 hE rfl fun a hE => ?_; refine c_end ?_; refine xT ?_; refine c_ret ?_; cases hF
    refine r_ret (v := _) hE rfl ⟨_, _, _, rfl, hI, rfl, rfl⟩
  refine c_block ?_
  refine wp_loop_ghost (fun n' a' w' => ∃ (i902 : Nat) (rest904 : List ByteArray) (s886 : (List Int) × (List Int)) (G883 : GH), n' = rest904.length ∧ i902 ≤ p0.names_.length ∧ p0.names_.drop i902 = rest904 ∧ forL (lattice_Lattice_tables.b0 k p0) i902 rest904 s886 = some o887 ∧ G0.le G883 ∧ Env a' 118 [(12, .int .i64 (i902 : Int)), (0, .pointer (some ⟨b1, 0, none⟩)), (11, .int .i64 (p0.names_.length : Int))] ∧ Inv w0 G0 D0 G883 [.blk b1 ([.slice A2 p0.names_.length c3, .map A5, .slice A7 p0.up_.length c8, .slice A10 p0.down_.length c11] ++ (arCells .i64 256 s886.1 ++ (arCells .i64 256 s886.2 ++ []))) 78] w') _ ⟨0, _, _, G0, rfl, Nat.zero_le _, rfl, hO888, (GH.le.refl _), hE.keep ⟨rfl, rfl, rfl, trivial⟩, hI⟩ ?_
  clear hE hI hO888; rintro m901 a w ⟨i902, rest904, s886, G883, rfl, hi908, hd905, hO888, hg890, hE, hI⟩; rcases rest904 with _ | ⟨x903, rest904⟩
  · obtain rfl := forL_nil hO888; have hlt907 := drop_nil hd905 hi908; clear hd905; refine c_seq ?_; refine c_reg ?_; refine run tt_ok 1 hE rfl fun a hE => ?_; refine c_end ?_; refine xT ?_; refine c_seq ?_
    have hE := hE.tr (t := 13) rfl (decide_eq_false (by omega)); refine c_false hE rfl ?_; refine c_exit ?_; refine xTe ?_; refine xTe ?_; refine xBh ?_; refine xT ?_; exact ⟨_, G883, rfl, hg890, hE.keep ⟨rfl, trivial⟩, hI⟩
  obtain ⟨stp900, hF, hO888⟩ := forL_step hO888; obtain ⟨hx906, hd905, hlt907⟩ := drop_cons hd905; unfold lattice_Lattice_tables.b0 at hF; refine c_seq ?_; refine c_reg ?_; refine run tt_ok 1 hE rfl fun a hE => ?_
  refine c_end ?_; refine xT ?_; refine c_seq ?_; have hE := hE.tr (t := 13) rfl (decide_eq_true (by omega)); refine c_true hE rfl ?_; refine c_skip ?_; refine xT ?_; refine c_seq ?_; refine c_block ?_; refine c_seq ?_
  refine c_reg ?_; refine run tt_ok 2 hE rfl fun a hE => ?_; refine c_end ?_; refine xT ?_; refine c_seq ?_; refine c_reg ?_; refine run tt_ok 3 hE rfl fun a hE => ?_
  refine s_rt hI hE rfl (f_loadB tt_ok 0 rfl rfl rfl rfl) rfl fun a hE => ?_; refine run tt_ok 2 hE rfl fun a hE => ?_; refine c_end ?_; refine xT ?_; obtain ⟨o1199, hO1200, hK1201⟩ := bd hF; clear hF
  refine c_cut (fun a' w' => ∃ (s1203 : (List Int) × (List Int)) (G1204 : GH), o1199 = .go s1203 ∧ G883.le G1204 ∧ Env a' 118 [(0, .pointer (some ⟨b1, 0, none⟩)), (11, .int .i64 (p0.names_.length : Int)), (12, .int .i64 (i902 : Int))] ∧ Inv w0 G0 D0 G1204 [.blk b1 ([.slice A2 p0.names_.length c3, .map A5, .slice A7 p0.up_.length c8, .slice A10 p0.down_.length c11] ++ (arCells .i64 256 s1203.1 ++ (arCells .i64 256 s1203.2 ++ []))) 78] w') ?_ ?_
  rotate_left
  · clear hE hI hO1200; rintro a w ⟨s1203, G1204, rfl, hg1207, hE, hI⟩; have hF := lrk_go hK1201; clear hK1201; refine xB ?_; refine xT ?_; refine c_reg ?_; refine run tt_ok 2 hE rfl fun a hE => ?_; refine c_end ?_
    refine xT ?_; cases hF; have hE := hE.setI (t := 12) rfl (w64_succ hlt907 (len_le h4))
    exact ⟨rest904.length, Nat.lt_succ_self _, i902 + 1, rest904, _, G1204, rfl, hlt907, hd905, hO888, (hg890.trans hg1207), hE.keep ⟨rfl, rfl, rfl, trivial⟩, hI⟩
  refine c_block ?_
  refine wp_loop_ghost (fun n' a' w' => ∃ (i1210 : Nat) (rest1212 : List ByteArray) (s1198 : (List Int) × (List Int)) (G1195 : GH), n' = rest1212.length ∧ i1210 ≤ p0.names_.length ∧ p0.names_.drop i1210 = rest1212 ∧ forL (lattice_Lattice_tables.b1 k i902 p0) i1210 rest1212 s1198 = some o1199 ∧ G883.le G1195 ∧ Env a' 118 [(20, .int .i64 (i1210 : Int)), (0, .pointer (some ⟨b1, 0, none⟩)), (3, .int .i64 (i902 : Int)), (11, .int .i64 (p0.names_.length : Int)), (12, .int .i64 (i902 : Int)), (19, .int .i64 (p0.names_.length : Int))] ∧ Inv w0 G0 D0 G1195 [.blk b1 ([.slice A2 p0.names_.length c3, .map A5, .slice A7 p0.up_.length c8, .slice A10 p0.down_.length c11] ++ (arCells .i64 256 s1198.1 ++ (arCells .i64 256 s1198.2 ++ []))) 78] w') _ ⟨0, _, _, G883, rfl, Nat.zero_le _, rfl, hO1200, (GH.le.refl _), hE.keep ⟨rfl, rfl, rfl, rfl, rfl, rfl, trivial⟩, hI⟩ ?_
  clear hE hI hO1200; rintro m1209 a w ⟨i1210, rest1212, s1198, G1195, rfl, hi1216, hd1213, hO1200, hg1202, hE, hI⟩; rcases rest1212 with _ | ⟨x1211, rest1212⟩
  · obtain rfl := forL_nil hO1200; have hlt1215 := drop_nil hd1213 hi1216; clear hd1213; refine c_seq ?_; refine c_reg ?_; refine run tt_ok 1 hE rfl fun a hE => ?_; refine c_end ?_; refine xT ?_; refine c_seq ?_
    have hE := hE.tr (t := 21) rfl (decide_eq_false (by omega)); refine c_false hE rfl ?_; refine c_exit ?_; refine xTe ?_; refine xTe ?_; refine xBh ?_; refine xT ?_
    exact ⟨_, G1195, rfl, hg1202, hE.keep ⟨rfl, rfl, rfl, trivial⟩, hI⟩
  obtain ⟨stp1208, hF, hO1200⟩ := forL_step hO1200; obtain ⟨hx1214, hd1213, hlt1215⟩ := drop_cons hd1213; unfold lattice_Lattice_tables.b1 at hF; refine c_seq ?_; refine c_reg ?_; refine run tt_ok 1 hE rfl fun a hE => ?_
  refine c_end ?_; refine xT ?_; refine c_seq ?_; have hE := hE.tr (t := 21) rfl (decide_eq_true (by omega)); refine c_true hE rfl ?_; refine c_skip ?_; refine xT ?_; refine c_seq ?_; refine c_block ?_; refine c_seq ?_
  refine c_reg ?_; refine run tt_ok 2 hE rfl fun a hE => ?_; refine c_end ?_; refine xT ?_; refine c_seq ?_; refine c_seq ?_; obtain ⟨m1243, hF, hR1245⟩ := bd hF
  refine c_cut (fun a' w' => ∃ (G1241 : GH), G1195.le G1241 ∧ Env a' 118 [(0, .pointer (some ⟨b1, 0, none⟩)), (3, .int .i64 (i902 : Int)), (4, .int .i64 (i1210 : Int)), (11, .int .i64 (p0.names_.length : Int)), (12, .int .i64 (i902 : Int)), (19, .int .i64 (p0.names_.length : Int)), (20, .int .i64 (i1210 : Int)), (47, .bool m1243)] ∧ Inv w0 G0 D0 G1241 [.blk b1 ([.slice A2 p0.names_.length c3, .map A5, .slice A7 p0.up_.length c8, .slice A10 p0.down_.length c11] ++ (arCells .i64 256 s1198.1 ++ (arCells .i64 256 s1198.2 ++ []))) 78] w') ?_ ?_
  · refine c_reg ?_; refine run tt_ok 4 hE rfl fun a hE => ?_; rcases bool_or (!decide ((i902 : Int) = (i1210 : Int))) with hb1327 | hb1327; rotate_left
    · replace hF := cf hb1327 hF; have hE := hE.tr (t := 26) rfl hb1327; clear hb1327; refine run tt_ok 21 hE rfl fun a hE => ?_; refine c_end ?_; refine xT ?_; cases hF
      exact ⟨G1195, (GH.le.refl _), hE.keep ⟨rfl, rfl, rfl, rfl, rfl, rfl, rfl, rfl, trivial⟩, hI⟩
    replace hF := ct hb1327 hF; have hE := hE.tr (t := 26) rfl hb1327; clear hb1327; refine run tt_ok 3 hE rfl fun a hE => ?_; refine s_rt hI hE rfl (f_loadB tt_ok 0 rfl rfl rfl rfl) rfl fun a hE => ?_
    refine run tt_ok 1 hE rfl fun a hE => ?_; obtain ⟨y1332, hy1333, hF⟩ := bd hF; obtain ⟨b1328, o1329, cs, hb1334, hR1331, hA1330⟩ := sl_at (h9.mono (hg890.trans hg1202)) (getO_some hy1333).1 (getO_some hy1333).2
    obtain rfl := rep_int.1 hR1331; refine s_rt hI hE rfl (f_idx tt_ok hb1334 rfl rfl rfl) rfl fun a hE => ?_; refine s_rt hI hE rfl (f_loadG tt_ok hA1330 0 rfl rfl rfl rfl) rfl fun a hE => ?_
    refine run tt_ok 1 hE rfl fun a hE => ?_; obtain ⟨y1335, hy1336, hF⟩ := bd hF; refine s_call0 cl_47 hI hE rfl rfl ((lattice_set_has.ok k) _ _ _ hy1336 _ _  hI.pass0 ) rfl ?_; clear hE hI
    rintro a w _ G1338 _ ⟨rfl, rfl⟩ hg1337 hI hE; refine run tt_ok 2 hE rfl fun a hE => ?_; rcases bool_or y1335 with hb1339 | hb1339; rotate_left
    · replace hF := cf hb1339 hF; have hE := hE.tr (t := 37) rfl hb1339; clear hb1339; refine run tt_ok 10 hE rfl fun a hE => ?_; refine c_end ?_; refine xT ?_; cases hF
      exact ⟨G1338, hg1337, hE.keep ⟨rfl, rfl, rfl, rfl, rfl, rfl, rfl, rfl, trivial⟩, hI⟩
    replace hF := ct hb1339 hF; have hE := hE.tr (t := 37) rfl hb1339; clear hb1339; refine run tt_ok 3 hE rfl fun a hE => ?_; refine s_rt hI hE rfl (f_loadB tt_ok 0 rfl rfl rfl rfl) rfl fun a hE => ?_
    refine run tt_ok 1 hE rfl fun a hE => ?_; obtain ⟨y1344, hy1345, hF⟩ := bd hF
    obtain ⟨b1340, o1341, cs, hb1346, hR1343, hA1342⟩ := sl_at (h9.mono ((hg890.trans hg1202).trans hg1337)) (getO_some hy1345).1 (getO_some hy1345).2; obtain rfl := rep_int.1 hR1343
    refine s_rt hI hE rfl (f_idx tt_ok hb1346 rfl rfl rfl) rfl fun a hE => ?_; refine s_rt hI hE rfl (f_loadG tt_ok hA1342 0 rfl rfl rfl rfl) rfl fun a hE => ?_; refine run tt_ok 1 hE rfl fun a hE => ?_
    obtain ⟨y1347, hy1348, hF⟩ := bd hF; refine s_call0 cl_47 hI hE rfl rfl ((lattice_set_has.ok k) _ _ _ hy1348 _ _  hI.pass0 ) rfl ?_; clear hE hI; rintro a w _ G1350 _ ⟨rfl, rfl⟩ hg1349 hI hE
    refine run tt_ok 1 hE rfl fun a hE => ?_; refine c_end ?_; refine xT ?_; cases hF; exact ⟨G1350, (hg1337.trans hg1349), hE.keep ⟨rfl, rfl, rfl, rfl, rfl, rfl, rfl, rfl, trivial⟩, hI⟩
  clear hE hI; rintro a w ⟨G1241, hg1244, hE, hI⟩; clear hF; have hF := hR1245; clear hR1245; refine xT ?_; refine c_if (b := m1243) hE rfl (fun hb1326 => ?_) (fun hb1326 => ?_)
  · replace hF := ct hb1326 hF; refine c_seq ?_; refine c_reg ?_; refine run tt_ok 1 hE rfl fun a hE => ?_; refine c_end ?_; refine xT ?_; refine c_ret ?_; refine xTr ?_; refine xBr ?_; refine xTr ?_; refine xTr ?_
    refine xBr ?_; refine xTr ?_; refine xBr ?_; refine xTr ?_; refine xTr ?_; refine xBr ?_; refine xTr ?_; refine xTr ?_; cases hF; obtain rfl := nxt_ret hO1200; have hF := lrk_ret hK1201
    cases hF; obtain rfl := nxt_ret hO888; have hF := lrk_ret hK889; cases hF; refine r_ret (v := _) hE rfl ⟨_, _, _, rfl, hI, rfl, rfl⟩
  replace hF := cf hb1326 hF; refine c_skip ?_; refine xT ?_; refine c_seq ?_; refine c_draw mixed (by kernel_rfl) hI ?_; clear hI; refine runq tt_ok 3 hE rfl fun a hE => ?_
  refine q_rt hE rfl (f_loadB tt_ok 0 rfl rfl rfl rfl) rfl fun a hE => ?_; refine runq tt_ok 1 hE rfl fun a hE => ?_; obtain ⟨y1280, hy1281, hF⟩ := bd hF
  obtain ⟨b1276, o1277, cs, hb1282, hR1279, hA1278⟩ := sl_at (h9.mono ((hg890.trans hg1202).trans hg1244)) (getO_some hy1281).1 (getO_some hy1281).2; obtain rfl := rep_int.1 hR1279
  refine q_rt hE rfl (f_idx tt_ok hb1282 rfl rfl rfl) rfl fun a hE => ?_; refine q_rt hE rfl (f_loadG tt_ok hA1278 0 rfl rfl rfl rfl) rfl fun a hE => ?_; refine runq tt_ok 3 hE rfl fun a hE => ?_
  refine q_rt hE rfl (f_loadB tt_ok 0 rfl rfl rfl rfl) rfl fun a hE => ?_; refine runq tt_ok 1 hE rfl fun a hE => ?_; obtain ⟨y1287, hy1288, hF⟩ := bd hF
  obtain ⟨b1283, o1284, cs, hb1289, hR1286, hA1285⟩ := sl_at (h9.mono ((hg890.trans hg1202).trans hg1244)) (getO_some hy1288).1 (getO_some hy1288).2; obtain rfl := rep_int.1 hR1286
  refine q_rt hE rfl (f_idx tt_ok hb1289 rfl rfl rfl) rfl fun a hE => ?_; refine q_rt hE rfl (f_loadG tt_ok hA1285 0 rfl rfl rfl rfl) rfl fun a hE => ?_; refine runq tt_ok 4 hE rfl fun a hE => ?_
  refine q_rt hE rfl (f_loadB tt_ok 0 rfl rfl rfl rfl) rfl fun a hE => ?_; obtain ⟨y1290, hy1291, hF⟩ := bd hF
  refine q_call cl_77 hE rfl rfl (fun w hI => (lattice_least.ok k) _ _ _ hy1291 _ _ _ _ hI.pass0 (h9.mono ((hg890.trans hg1202).trans hg1244))) (fun _ _ _ h => h.2) rfl fun a hE => ?_
  refine runq tt_ok 3 hE rfl fun a hE => ?_; refine q_rt hE rfl (f_loadB tt_ok 0 rfl rfl rfl rfl) rfl fun a hE => ?_; refine runq tt_ok 1 hE rfl fun a hE => ?_; obtain ⟨y1297, hy1298, hF⟩ := bd hF
  obtain ⟨b1293, o1294, cs, hb1299, hR1296, hA1295⟩ := sl_at (h12.mono ((hg890.trans hg1202).trans hg1244)) (getO_some hy1298).1 (getO_some hy1298).2; obtain rfl := rep_int.1 hR1296
  refine q_rt hE rfl (f_idx tt_ok hb1299 rfl rfl rfl) rfl fun a hE => ?_; refine q_rt hE rfl (f_loadG tt_ok hA1295 0 rfl rfl rfl rfl) rfl fun a hE => ?_; refine runq tt_ok 3 hE rfl fun a hE => ?_
  refine q_rt hE rfl (f_loadB tt_ok 0 rfl rfl rfl rfl) rfl fun a hE => ?_; refine runq tt_ok 1 hE rfl fun a hE => ?_; obtain ⟨y1304, hy1305, hF⟩ := bd hF
  obtain ⟨b1300, o1301, cs, hb1306, hR1303, hA1302⟩ := sl_at (h12.mono ((hg890.trans hg1202).trans hg1244)) (getO_some hy1305).1 (getO_some hy1305).2; obtain rfl := rep_int.1 hR1303
  refine q_rt hE rfl (f_idx tt_ok hb1306 rfl rfl rfl) rfl fun a hE => ?_; refine q_rt hE rfl (f_loadG tt_ok hA1302 0 rfl rfl rfl rfl) rfl fun a hE => ?_; refine runq tt_ok 4 hE rfl fun a hE => ?_
  refine q_rt hE rfl (f_loadB tt_ok 0 rfl rfl rfl rfl) rfl fun a hE => ?_; obtain ⟨y1307, hy1308, hF⟩ := bd hF
  refine q_call cl_77 hE rfl rfl (fun w hI => (lattice_least.ok k) _ _ _ hy1308 _ _ _ _ hI.pass0 (h12.mono ((hg890.trans hg1202).trans hg1244))) (fun _ _ _ h => h.2) rfl fun a hE => ?_
  refine runq tt_ok 2 hE rfl fun a hE => ?_; refine q_end ?_; intro w hI; refine xT ?_; refine c_seq ?_; refine c_seq ?_; obtain ⟨m1313, hF, hR1315⟩ := bd hF
  refine c_cut (fun a' w' => ∃ (G1311 : GH), G1241.le G1311 ∧ Env a' 118 [(0, .pointer (some ⟨b1, 0, none⟩)), (3, .int .i64 (i902 : Int)), (4, .int .i64 (i1210 : Int)), (5, .int .i64 y1290), (6, .int .i64 y1307), (11, .int .i64 (p0.names_.length : Int)), (12, .int .i64 (i902 : Int)), (19, .int .i64 (p0.names_.length : Int)), (20, .int .i64 (i1210 : Int)), (93, .bool m1313)] ∧ Inv w0 G0 D0 G1311 [.blk b1 ([.slice A2 p0.names_.length c3, .map A5, .slice A7 p0.up_.length c8, .slice A10 p0.down_.length c11] ++ (arCells .i64 256 s1198.1 ++ (arCells .i64 256 s1198.2 ++ []))) 78] w') ?_ ?_
  · refine c_reg ?_; refine run tt_ok 3 hE rfl fun a hE => ?_; rcases bool_or (decide (y1290 < (0 : Int))) with hb1325 | hb1325
    · replace hF := ct hb1325 hF; have hE := hE.tr (t := 90) rfl hb1325; clear hb1325; refine run tt_ok 3 hE rfl fun a hE => ?_; refine c_end ?_; refine xT ?_; cases hF
      exact ⟨G1241, (GH.le.refl _), hE.keep ⟨rfl, rfl, rfl, rfl, rfl, rfl, rfl, rfl, rfl, rfl, trivial⟩, hI⟩
    replace hF := cf hb1325 hF; have hE := hE.tr (t := 90) rfl hb1325; clear hb1325; refine run tt_ok 3 hE rfl fun a hE => ?_; refine c_end ?_; refine xT ?_; cases hF
    exact ⟨G1241, (GH.le.refl _), hE.keep ⟨rfl, rfl, rfl, rfl, rfl, rfl, rfl, rfl, rfl, rfl, trivial⟩, hI⟩
  clear hE hI; rintro a w ⟨G1311, hg1314, hE, hI⟩; clear hF; have hF := hR1315; clear hR1315; refine xT ?_; refine c_if (b := m1313) hE rfl (fun hb1324 => ?_) (fun hb1324 => ?_)
  · replace hF := ct hb1324 hF; refine c_seq ?_; refine c_reg ?_; refine run tt_ok 1 hE rfl fun a hE => ?_; refine c_end ?_; refine xT ?_; refine c_ret ?_; refine xTr ?_; refine xBr ?_; refine xTr ?_; refine xTr ?_
    refine xBr ?_; refine xTr ?_; refine xBr ?_; refine xTr ?_; refine xTr ?_; refine xBr ?_; refine xTr ?_; refine xTr ?_; cases hF; obtain rfl := nxt_ret hO1200; have hF := lrk_ret hK1201
    cases hF; obtain rfl := nxt_ret hO888; have hF := lrk_ret hK889; cases hF; refine r_ret (v := _) hE rfl ⟨_, _, _, rfl, hI, rfl, rfl⟩
  replace hF := cf hb1324 hF; refine c_skip ?_; refine xT ?_
  refine c_mix [12, 17] (.step 0 0 (.step 1 0 (.step 2 0 (.step 3 0 (.step 4 0 (.step 5 0 (.step 6 0 (.step 7 0 (.step 8 0 (.step 9 0 (.step 10 0 (.step 11 0 (.step 13 0 (.step 14 0 (.step 15 0 (.step 12 3 (.step 16 0 (.step 17 3 .nil)))))))))))))))))) [] mixed (by kernel_rfl) hI ?_; clear hI; intro w hI
  have hS := hI.sw (Ls := []) [] (by decide) rfl (GH.le.refl _); refine mix_run tt_ok 10 hE rfl fun a hE => ?_; obtain ⟨_, hb1320, hF⟩ := bd hF
  refine d_rt hE rfl rfl (f_aidx tt_ok ua_76 rfl rfl rfl rfl hb1320) rfl fun a hE => ?_; obtain ⟨_, hb1321, hF⟩ := bd hF; refine d_rt hE rfl rfl (f_aidx tt_ok ua_75 rfl rfl rfl rfl hb1321) rfl fun a hE => ?_
  refine mix_run tt_ok 2 hE rfl fun a hE => ?_; obtain ⟨_, hb1322, hF⟩ := bd hF; refine d_rt hE rfl rfl (f_aidx tt_ok ua_76 rfl rfl rfl rfl hb1322) rfl fun a hE => ?_; refine d_last rfl ?_
  refine s_storeB tt_ok 0 hI hE rfl rfl rfl rfl rfl rfl rfl rfl (cs' := ([.slice A2 p0.names_.length c3, .map A5, .slice A7 p0.up_.length c8, .slice A10 p0.down_.length c11] ++ (arCells .i64 256 (setA s1198.1 ((i902 : Int).toNat * 16 + (i1210 : Int).toNat * 1) y1290) ++ (arCells .i64 256 s1198.2 ++ [])))) (ar_lay2 (pre := [.slice A2 p0.names_.length c3, .map A5, .slice A7 p0.up_.length c8, .slice A10 p0.down_.length c11]) rfl (by simp [arCells]) (ar_ij hb1320 hb1321) rfl) rfl fun a w hE hI => ?_
  refine d_nextl ?_; obtain ⟨_, hb1323, hF⟩ := bd hF; refine d_rt hE rfl rfl (f_aidx tt_ok ua_75 rfl rfl rfl rfl hb1323) rfl fun a hE => ?_; refine d_last rfl ?_
  refine s_storeB tt_ok 0 hI hE rfl rfl rfl rfl rfl rfl rfl rfl (cs' := ([.slice A2 p0.names_.length c3, .map A5, .slice A7 p0.up_.length c8, .slice A10 p0.down_.length c11] ++ (arCells .i64 256 (setA s1198.1 ((i902 : Int).toNat * 16 + (i1210 : Int).toNat * 1) y1290) ++ (arCells .i64 256 (setA s1198.2 ((i902 : Int).toNat * 16 + (i1210 : Int).toNat * 1) y1307) ++ [])))) (ar_lay2 (pre := ([.slice A2 p0.names_.length c3, .map A5, .slice A7 p0.up_.length c8, .slice A10 p0.down_.length c11] ++ (arCells .i64 256 (setA s1198.1 ((i902 : Int).toNat * 16 + (i1210 : Int).toNat * 1) y1290) ++ []))) rfl (by simp [arCells]) (ar_ij hb1322 hb1323) rfl) rfl fun a w hE hI => ?_
  refine d_nextl ?_; refine d_end ?_; refine xB ?_; refine xT ?_; refine c_reg ?_; refine run tt_ok 2 hE rfl fun a hE => ?_; refine c_end ?_; refine xT ?_; cases hF
  have hE := hE.setI (t := 20) rfl (w64_succ hlt1215 (len_le h4))
  exact ⟨rest1212.length, Nat.lt_succ_self _, i1210 + 1, rest1212, _, G1311, rfl, hlt1215, hd1213, hO1200, ((hg1202.trans hg1244).trans hg1314), hE.keep ⟨rfl, rfl, rfl, rfl, rfl, rfl, trivial⟩, hI⟩

theorem cl_12 : Callable Try.prog 12 := ⟨_, Try.func12, by kernel_rfl, by kernel_rfl⟩

def lattice_New.C (s : (List ByteArray) → (List TPair) → Option ((Option Tlattice_Lattice) × Int)) : Prop := ∀ (p0 : List ByteArray) (p1 : List TPair) (r : (Option Tlattice_Lattice) × Int), s p0 p1 = some r → ∀ (w0 : World) (G0 : GH) (A1 : Option Addr) (c2 : Nat) (A4 : Option Addr) (c5 : Nat), Inv w0 G0 [] G0 [] w0 → (Sl G0 A1 c2 1 (p0.map D.str)) → (Sl G0 A4 c5 2 (p1.map TPair.d)) → Calls Try.prog 12 #[.slice A1 p0.length c2, .slice A4 p1.length c5] w0 (Ret w0 G0 [] fun G' L' v => L' = [] ∧ ∃ A0, v = .tuple ⟨[.pointer A0, .int .i64 r.2]⟩ ∧ Pt G' A0 78 Tlattice_Lattice.d r.1)

theorem lattice_New.ok (k : Nat) : lattice_New.C (lattice_New k) := by
  intro p0 p1 r hF w0 G0 A1 c2 A4 c5 hI h3 h6
  unfold lattice_New at hF
  refine calls_of_wp Try.func12 rfl ?_
  have hE : Env _ 37 [(0, .slice A1 p0.length c2), (1, .slice A4 p1.length c5)] := Env.start ⟨[.slice A1 p0.length c2, .slice A4 p1.length c5]⟩ 35
  refine c_seq ?_; refine c_reg ?_; refine run tt_ok 2 hE rfl fun a hE => ?_; refine c_end ?_; refine xT ?_; refine c_seq ?_; refine c_seq ?_; obtain ⟨m10, hF, hR12⟩ := bd hF
  refine c_cut (fun a' w' => ∃ (G8 : GH), G0.le G8 ∧ Env a' 37 [(0, .slice A1 p0.length c2), (1, .slice A4 p1.length c5), (16, .bool m10)] ∧ Inv w0 G0 [] G8 [] w') ?_ ?_
  · refine c_reg ?_; refine run tt_ok 4 hE rfl fun a hE => ?_; rcases bool_or (decide ((16 : Int) < (p0.length : Int))) with hb88 | hb88
    · replace hF := ct hb88 hF; have hE := hE.tr (t := 12) rfl hb88; clear hb88; refine run tt_ok 4 hE rfl fun a hE => ?_; refine c_end ?_; refine xT ?_; cases hF
      exact ⟨G0, (GH.le.refl _), hE.keep ⟨rfl, rfl, rfl, trivial⟩, hI⟩
    replace hF := cf hb88 hF; have hE := hE.tr (t := 12) rfl hb88; clear hb88; refine run tt_ok 4 hE rfl fun a hE => ?_; refine c_end ?_; refine xT ?_; cases hF
    exact ⟨G0, (GH.le.refl _), hE.keep ⟨rfl, rfl, rfl, trivial⟩, hI⟩
  clear hE hI; rintro a w ⟨G8, hg11, hE, hI⟩; clear hF; have hF := hR12; clear hR12; refine xT ?_; refine c_if (b := m10) hE rfl (fun hb87 => ?_) (fun hb87 => ?_)
  · replace hF := ct hb87 hF; refine c_seq ?_; refine c_reg ?_; refine run tt_ok 2 hE rfl fun a hE => ?_; refine c_end ?_; refine xT ?_; refine c_ret ?_; refine xTr ?_; cases hF
    refine r_ret (v := _) hE rfl ⟨_, _, _, rfl, hI.nil, rfl, none, rfl, Pt.nil⟩
  replace hF := cf hb87 hF; refine c_skip ?_; refine xT ?_; refine c_seq ?_; refine c_reg ?_; refine run tt_ok 1 hE rfl fun a hE => ?_; obtain ⟨y17, hy18, hF⟩ := bd hF
  refine s_call0 cl_42 hI hE rfl rfl ((slices_Clone_string_string.ok k) _ _ hy18 _ _ _ _ hI.pass0 (h3.mono hg11)) rfl ?_; clear hE hI; rintro a w _ G20 _ ⟨rfl, A21, c22, rfl, h23⟩ hg19 hI hE
  refine s_makeMap hI hE rfl rfl fun a w m24 hE hI => ?_; have hM25 : RM G20 false D.str (D.int .i64) ([] : List (ByteArray × Int)) (#[] : Array MapEntry).toList := RM.nil
  refine s_rt hI hE rfl (f_build tt_ok rfl z_78 rfl rfl) rfl fun a hE => ?_; refine s_box hI hE rfl rfl rfl rfl fun a w b27 hE hI => ?_; refine run tt_ok 1 hE rfl fun a hE => ?_; refine c_end ?_; refine xT ?_
  refine c_seq ?_; refine c_seq ?_; refine c_reg ?_; refine run tt_ok 1 hE rfl fun a hE => ?_; have hI := hI.nilrow 83 1; have hR33 : RL G20 1 (([] : List Int).map (D.int .u32)) [] := RL.nil; have hI := hI.nilrow 83 1
  have hR35 : RL G20 1 (([] : List Int).map (D.int .u32)) [] := RL.nil; have hI := hI.pick [2, 3, 1, 0] (by decide) rfl; obtain ⟨y29, hy30, hF⟩ := bd hF
  refine s_callM [.blk b27 ([.slice A21 y17.length c22, .map (some m24), .slice none 0 0, .slice none 0 0] ++ (arCells .i64 256 ([] : List Int) ++ (arCells .i64 256 ([] : List Int) ++ []))) 78, .map m24 #[] 0, .row (.slice none 0 0) 83 1 0 [], .row (.slice none 0 0) 83 1 0 []] [] cl_43 hI hE rfl rfl (fun hIp => (lattice_Lattice_named.ok k) _ _ hy30 _ _ _ _ _ _ _ _ _ _ _ _ _ _ _ hIp h23 hM25 hR33 hR35) rfl ?_; clear hE hI
  rintro a w _ G36 _ ⟨es38, cl39, A42, c43, cs44, A47, c48, cs49, rfl, rfl, hM40, hR45, hR50⟩ hg31 hI hE; refine run tt_ok 1 hE rfl fun a hE => ?_; refine c_end ?_; refine xT ?_; refine c_seq ?_; refine c_reg ?_
  refine run tt_ok 2 hE rfl fun a hE => ?_; refine c_end ?_; refine xT ?_; refine c_if (b := !decide (y29.1 = (0 : Int))) hE rfl (fun hb86 => ?_) (fun hb86 => ?_)
  · replace hF := ct hb86 hF; refine c_seq ?_; refine c_reg ?_; refine run tt_ok 3 hE rfl fun a hE => ?_; refine c_end ?_; refine xT ?_; refine c_ret ?_; refine xTr ?_; cases hF
    refine r_ret (v := _) hE rfl ⟨_, _, _, rfl, hI.nil, rfl, none, rfl, Pt.nil⟩
  replace hF := cf hb86 hF; refine c_skip ?_; refine xT ?_; refine c_seq ?_; refine c_seq ?_; refine c_reg ?_; refine run tt_ok 2 hE rfl fun a hE => ?_; obtain ⟨G55, hg56, hI, h57⟩ := (hI.front 1).giveM hM40
  obtain ⟨y52, hy53, hF⟩ := bd hF
  refine s_callM [.blk b27 ([.slice A21 y17.length c22, .map (some m24), .slice A42 y29.2.up_.length c43, .slice A47 y29.2.down_.length c48] ++ (arCells .i64 256 ([] : List Int) ++ (arCells .i64 256 ([] : List Int) ++ []))) 78, .row (.slice A42 y29.2.up_.length c43) 83 1 y29.2.up_.length cs44, .row (.slice A47 y29.2.down_.length c48) 83 1 y29.2.down_.length cs49] [] cl_44 hI hE rfl rfl (fun hIp => (lattice_Lattice_edges.ok k) _ _ _ hy53 _ _ _ _ _ _ _ _ _ _ _ _ _ _ hIp h57 (hR45.mono hg56) (hR50.mono hg56) (h6.mono (((hg11.trans hg19).trans hg31).trans hg56))) rfl ?_; clear hE hI
  rintro a w _ G58 _ ⟨A60, c61, cs62, A65, c66, cs67, rfl, rfl, hR63, hR68⟩ hg54 hI hE; refine run tt_ok 1 hE rfl fun a hE => ?_; refine c_end ?_; refine xT ?_; refine c_seq ?_; refine c_reg ?_
  refine run tt_ok 2 hE rfl fun a hE => ?_; refine c_end ?_; refine xT ?_; refine c_if (b := !decide (y52.1 = (0 : Int))) hE rfl (fun hb85 => ?_) (fun hb85 => ?_)
  · replace hF := ct hb85 hF; refine c_seq ?_; refine c_reg ?_; refine run tt_ok 3 hE rfl fun a hE => ?_; refine c_end ?_; refine xT ?_; refine c_ret ?_; refine xTr ?_; cases hF
    refine r_ret (v := _) hE rfl ⟨_, _, _, rfl, hI.nil, rfl, none, rfl, Pt.nil⟩
  replace hF := cf hb85 hF; refine c_skip ?_; refine xT ?_; refine c_seq ?_; refine c_seq ?_; refine c_reg ?_; refine run tt_ok 1 hE rfl fun a hE => ?_
  obtain ⟨G73, hg74, hI, h75⟩ := (hI.front 1).giveR (xs := y52.2.up_.map (D.int .u32)) (by simp) hR63; obtain ⟨G76, hg77, hI, h78⟩ := (hI.front 1).giveR (xs := y52.2.down_.map (D.int .u32)) (by simp) (hR68.mono hg74)
  obtain ⟨y70, hy71, hF⟩ := bd hF
  refine s_callM [.blk b27 ([.slice A21 y17.length c22, .map (some m24), .slice A60 y52.2.up_.length c61, .slice A65 y52.2.down_.length c66] ++ (arCells .i64 256 ([] : List Int) ++ (arCells .i64 256 ([] : List Int) ++ []))) 78] [] cl_45 hI hE rfl rfl (fun hIp => (lattice_Lattice_tables.ok k) _ _ hy71 _ _ _ _ _ _ _ _ _ _ _ hIp (h23.mono ((((hg31.trans hg56).trans hg54).trans hg74).trans hg77)) (h57.mono ((hg54.trans hg74).trans hg77)) (h75.mono hg77) h78) rfl ?_; clear hE hI
  rintro a w _ G79 _ ⟨rfl, rfl⟩ hg72 hI hE; refine run tt_ok 1 hE rfl fun a hE => ?_; refine c_end ?_; refine xT ?_; refine c_if (b := !y70.1) hE rfl (fun hb84 => ?_) (fun hb84 => ?_)
  · replace hF := ct hb84 hF; refine c_seq ?_; refine c_reg ?_; refine run tt_ok 2 hE rfl fun a hE => ?_; refine c_end ?_; refine xT ?_; refine c_ret ?_; refine xTr ?_; cases hF
    refine r_ret (v := _) hE rfl ⟨_, _, _, rfl, hI.nil, rfl, none, rfl, Pt.nil⟩
  replace hF := cf hb84 hF; refine c_skip ?_; refine xT ?_; refine c_seq ?_; refine c_reg ?_; refine run tt_ok 3 hE rfl fun a hE => ?_; refine c_end ?_; refine xT ?_; obtain ⟨G80, hg81, hI, hA82⟩ := (hI.front 0).giveB
  have h83 : Pt G80 (some ⟨b27, 0, none⟩) 78 Tlattice_Lattice.d (some (Tlattice_Lattice.mk y17 y29.2.at_ y52.2.up_ y52.2.down_ y70.2.join_ y70.2.meet_)) := Pt.mk ((Tlattice_Lattice.inv (x := (Tlattice_Lattice.mk y17 y29.2.at_ y52.2.up_ y52.2.down_ y70.2.join_ y70.2.meet_))).2 ⟨A21, c22, (some m24), A60, c61, A65, c66, rfl, (h23.mono ((((((hg31.trans hg56).trans hg54).trans hg74).trans hg77).trans hg72).trans hg81)), (h57.mono ((((hg54.trans hg74).trans hg77).trans hg72).trans hg81)), (h75.mono ((hg77.trans hg72).trans hg81)), (h78.mono (hg72.trans hg81))⟩) hA82
  refine c_ret ?_; cases hF; refine r_ret (v := _) hE rfl ⟨_, _, _, rfl, hI.nil, rfl, (some ⟨b27, 0, none⟩), rfl, h83⟩

theorem cl_90 : Callable Try.prog 90 := ⟨_, Try.func90, by kernel_rfl, by kernel_rfl⟩

def schema_typed.C (s : TTable → Option Int) : Prop := ∀ (p0 : TTable) (r : Int), s p0 = some r → ∀ (w0 : World) (G0 : GH) (cs10 : List Value), Inv w0 G0 [] G0 [] w0 → (Rep G0 p0.d cs10) → Calls Try.prog 90 #[.agg ⟨cs10⟩] w0 (Ret w0 G0 [] fun G' L' v => L' = [] ∧ v = .int .i64 r)

theorem schema_typed.ok (k : Nat) : schema_typed.C (schema_typed k) := by
  intro p0 r hF w0 G0 cs10 hI hR11
  unfold schema_typed at hF
  obtain ⟨A1, c2, A4, c5, A7, c8, rfl, h3, h6, h9⟩ := TTable.inv.1 hR11
  refine calls_of_wp Try.func90 rfl ?_
  have hE : Env _ 21 [(0, .agg ⟨[.string p0.Name, .string p0.Rows, .slice A1 p0.Cols.length c2, .slice A4 p0.Key.length c5, .string p0.Hide, .slice A7 p0.When.length c8]⟩)] := Env.start ⟨[.agg ⟨[.string p0.Name, .string p0.Rows, .slice A1 p0.Cols.length c2, .slice A4 p0.Key.length c5, .string p0.Hide, .slice A7 p0.When.length c8]⟩]⟩ 20
  refine c_seq ?_; refine c_reg ?_; refine s_box hI hE rfl rfl rfl rfl fun a w b12 hE hI => ?_; refine run tt_ok 1 hE rfl fun a hE => ?_; refine c_end ?_; refine xT ?_; refine c_seq ?_; refine c_seq ?_; refine c_reg ?_
  refine run tt_ok 1 hE rfl fun a hE => ?_; refine s_rt hI hE rfl (f_loadB tt_ok 0 rfl rfl rfl rfl) rfl fun a hE => ?_; refine run tt_ok 2 hE rfl fun a hE => ?_; refine c_end ?_; refine xT ?_
  obtain ⟨o39, hO40, hK41⟩ := bd hF; clear hF; refine c_cut (fun a' w' => ∃ (s43 : Unit) (G44 : GH), o39 = .go s43 ∧ G0.le G44 ∧ Env a' 21 [] ∧ Inv w0 G0 [] G44 [] w') ?_ ?_; rotate_left
  · clear hE hI hO40; rintro a w ⟨s43, G44, rfl, hg45, hE, hI⟩; have hF := lrk_go hK41; clear hK41; refine xT ?_; refine c_seq ?_; refine c_reg ?_; refine run tt_ok 1 hE rfl fun a hE => ?_; refine c_end ?_; refine xT ?_
    refine c_ret ?_; cases hF; refine r_ret (v := _) hE rfl ⟨_, _, _, rfl, hI.nil, rfl, rfl⟩
  refine c_block ?_
  refine wp_loop_ghost (fun n' a' w' => ∃ (i48 : Nat) (rest50 : List TCol) (s38 : Unit) (G37 : GH), n' = rest50.length ∧ i48 ≤ p0.Cols.length ∧ p0.Cols.drop i48 = rest50 ∧ forL (schema_typed.b0 k) i48 rest50 s38 = some o39 ∧ G0.le G37 ∧ Env a' 21 [(8, .int .i64 (i48 : Int)), (6, .slice A1 p0.Cols.length c2), (7, .int .i64 (p0.Cols.length : Int))] ∧ Inv w0 G0 [] G37 [] w') _ ⟨0, _, _, G0, rfl, Nat.zero_le _, rfl, hO40, (GH.le.refl _), hE.keep ⟨rfl, rfl, rfl, trivial⟩, (hI.dropN 1 rfl)⟩ ?_
  clear hE hI hO40; rintro m47 a w ⟨i48, rest50, s38, G37, rfl, hi54, hd51, hO40, hg42, hE, hI⟩; rcases rest50 with _ | ⟨x49, rest50⟩
  · obtain rfl := forL_nil hO40; have hlt53 := drop_nil hd51 hi54; clear hd51; refine c_seq ?_; refine c_reg ?_; refine run tt_ok 1 hE rfl fun a hE => ?_; refine c_end ?_; refine xT ?_; refine c_seq ?_
    have hE := hE.tr (t := 9) rfl (decide_eq_false (by omega)); refine c_false hE rfl ?_; refine c_exit ?_; refine xTe ?_; refine xTe ?_; refine xBh ?_; refine xT ?_; exact ⟨_, G37, rfl, hg42, hE.keep trivial, hI⟩
  obtain ⟨stp46, hF, hO40⟩ := forL_step hO40; obtain ⟨hx52, hd51, hlt53⟩ := drop_cons hd51; unfold schema_typed.b0 at hF; refine c_seq ?_; refine c_reg ?_; refine run tt_ok 1 hE rfl fun a hE => ?_; refine c_end ?_
  refine xT ?_; refine c_seq ?_; have hE := hE.tr (t := 9) rfl (decide_eq_true (by omega)); refine c_true hE rfl ?_; refine c_skip ?_; refine xT ?_; refine c_seq ?_; refine c_block ?_; refine c_seq ?_; refine c_reg ?_
  obtain ⟨b56, o57, cs, hb60, hR59, hA58⟩ := sl_at (h3.mono hg42) (Int.natCast_nonneg _) (natIdx hx52); obtain rfl := TCol.inv.1 hR59; refine s_rt hI hE rfl (f_idx tt_ok hb60 rfl rfl rfl) rfl fun a hE => ?_
  refine s_rt hI hE rfl (f_loadG tt_ok hA58 0 rfl rfl rfl rfl) rfl fun a hE => ?_; refine s_alloc hI hE rfl z_142 rfl rfl fun a w b61 hE hI => ?_
  refine s_storeB tt_ok 0 hI hE rfl rfl rfl rfl rfl rfl rfl rfl rfl rfl fun a w hE hI => ?_; refine c_end ?_; refine xT ?_; refine c_seq ?_; obtain ⟨m66, hF, hR68⟩ := bd hF
  refine c_cut (fun a' w' => ∃ (G64 : GH), G37.le G64 ∧ Env a' 21 [(6, .slice A1 p0.Cols.length c2), (7, .int .i64 (p0.Cols.length : Int)), (8, .int .i64 (i48 : Int)), (19, .bool m66)] ∧ Inv w0 G0 [] G64 [] w') ?_ ?_
  · refine c_reg ?_; refine run tt_ok 1 hE rfl fun a hE => ?_; refine s_rt hI hE rfl (f_loadB tt_ok 0 rfl rfl rfl rfl) rfl fun a hE => ?_; refine run tt_ok 2 hE rfl fun a hE => ?_
    rcases bool_or (decide (x49.Type_ < (1 : Int))) with hb70 | hb70
    · replace hF := ct hb70 hF; have hE := hE.tr (t := 15) rfl hb70; clear hb70; refine run tt_ok 4 hE rfl fun a hE => ?_; refine c_end ?_; refine xT ?_; cases hF
      exact ⟨G37, (GH.le.refl _), hE.keep ⟨rfl, rfl, rfl, rfl, trivial⟩, (hI.dropN 1 rfl)⟩
    replace hF := cf hb70 hF; have hE := hE.tr (t := 15) rfl hb70; clear hb70; refine run tt_ok 1 hE rfl fun a hE => ?_; refine s_rt hI hE rfl (f_loadB tt_ok 0 rfl rfl rfl rfl) rfl fun a hE => ?_
    refine run tt_ok 2 hE rfl fun a hE => ?_; refine c_end ?_; refine xT ?_; cases hF; exact ⟨G37, (GH.le.refl _), hE.keep ⟨rfl, rfl, rfl, rfl, trivial⟩, (hI.dropN 1 rfl)⟩
  clear hE hI; rintro a w ⟨G64, hg67, hE, hI⟩; clear hF; have hF := hR68; clear hR68; refine xT ?_; refine c_if (b := m66) hE rfl (fun hb69 => ?_) (fun hb69 => ?_)
  · replace hF := ct hb69 hF; refine c_seq ?_; refine c_reg ?_; refine run tt_ok 1 hE rfl fun a hE => ?_; refine c_end ?_; refine xT ?_; refine c_ret ?_; refine xBr ?_; refine xTr ?_; refine xTr ?_; refine xBr ?_
    refine xTr ?_; refine xTr ?_; cases hF; obtain rfl := nxt_ret hO40; have hF := lrk_ret hK41; cases hF; refine r_ret (v := _) hE rfl ⟨_, _, _, rfl, hI.nil, rfl, rfl⟩
  replace hF := cf hb69 hF; refine c_skip ?_; refine xB ?_; refine xT ?_; refine c_reg ?_; refine run tt_ok 2 hE rfl fun a hE => ?_; refine c_end ?_; refine xT ?_; cases hF
  have hE := hE.setI (t := 8) rfl (w64_succ hlt53 (len_le h3)); exact ⟨rest50.length, Nat.lt_succ_self _, i48 + 1, rest50, _, G64, rfl, hlt53, hd51, hO40, (hg42.trans hg67), hE.keep ⟨rfl, rfl, rfl, trivial⟩, hI⟩

theorem cl_89 : Callable Try.prog 89 := ⟨_, Try.func89, by kernel_rfl, by kernel_rfl⟩

def schema_Catalog_table_1.C (s : (Option TTable) → Option Int) : Prop := ∀ (p0 : Option TTable) (r : Int), s p0 = some r → ∀ (w0 : World) (G0 : GH) (A1 : Option Addr), Inv w0 G0 [] G0 [] w0 → (Pt G0 A1 135 TTable.d p0) → Calls Try.prog 89 #[.pointer A1] w0 (Ret w0 G0 [] fun G' L' v => L' = [] ∧ v = .int .i64 r)

theorem schema_Catalog_table_1.ok (k : Nat) : schema_Catalog_table_1.C (schema_Catalog_table_1 k) := by
  intro p0 r hF w0 G0 A1 hI h2
  unfold schema_Catalog_table_1 at hF
  refine calls_of_wp Try.func89 rfl ?_
  have hE : Env _ 4 [(0, .pointer A1)] := Env.start ⟨[.pointer A1]⟩ 3
  refine c_seq ?_; refine c_reg ?_; refine run tt_ok 1 hE rfl fun a hE => ?_; refine c_end ?_; refine xT ?_; refine c_seq ?_; refine c_reg ?_; rcases (h2).cases with ⟨hp16, rfl⟩ | ⟨y14, b15, cs, hp16, rfl, hR17, hA18⟩
  · cases op_n hp16 hF
  replace hF := op_s hp16 hF; obtain ⟨A19, c20, A22, c23, A25, c26, rfl, h21, h24, h27⟩ := TTable.inv.1 hR17; refine s_rt hI hE rfl (f_loadG tt_ok hA18 0 rfl rfl rfl rfl) rfl fun a hE => ?_; obtain ⟨y28, hy29, hF⟩ := bd hF
  refine s_call0 cl_90 hI hE rfl rfl ((schema_typed.ok k) _ _ hy29 _ _ _ hI.pass0 (TTable.inv.2 ⟨A19, c20, A22, c23, A25, c26, rfl, h21, h24, h27⟩)) rfl ?_; clear hE hI; rintro a w _ G31 _ ⟨rfl, rfl⟩ hg30 hI hE
  refine run tt_ok 1 hE rfl fun a hE => ?_; refine c_end ?_; refine xT ?_; refine c_ret ?_; cases hF; refine r_ret (v := _) hE rfl ⟨_, _, _, rfl, hI.nil, rfl, rfl⟩

theorem cl_19 : Callable Try.prog 19 := ⟨_, Try.func19, by kernel_rfl, by kernel_rfl⟩

def lattice_Lattice_Find.C (s : (Option Tlattice_Lattice) → ByteArray → Option (Int × Bool)) : Prop := ∀ (p0 : Option Tlattice_Lattice) (p1 : ByteArray) (r : Int × Bool), s p0 p1 = some r → ∀ (w0 : World) (G0 : GH) (A1 : Option Addr), Inv w0 G0 [] G0 [] w0 → (Pt G0 A1 78 Tlattice_Lattice.d p0) → Calls Try.prog 19 #[.pointer A1, .string p1] w0 (Ret w0 G0 [] fun G' L' v => L' = [] ∧ v = .tuple ⟨[.int .i64 r.1, .bool r.2]⟩)

theorem lattice_Lattice_Find.ok (k : Nat) : lattice_Lattice_Find.C (lattice_Lattice_Find k) := by
  intro p0 p1 r hF w0 G0 A1 hI h2
  unfold lattice_Lattice_Find at hF
  refine calls_of_wp Try.func19 rfl ?_
  have hE : Env _ 21 [(0, .pointer A1), (1, .string p1)] := Env.start ⟨[.pointer A1, .string p1]⟩ 19
  refine c_seq ?_; refine c_reg ?_; refine run tt_ok 2 hE rfl fun a hE => ?_; refine c_end ?_; refine xT ?_; refine c_seq ?_; refine c_seq ?_; refine c_reg ?_; refine run tt_ok 1 hE rfl fun a hE => ?_
  refine s_rt hI hE rfl (f_pnil up_28 h2 rfl rfl) rfl fun a hE => ?_; refine c_end ?_; refine xT ?_; refine c_if (b := p0.isNone) hE rfl (fun hb27 => ?_) (fun hb27 => ?_)
  · replace hF := ct hb27 hF; refine c_seq ?_; refine c_reg ?_; refine run tt_ok 2 hE rfl fun a hE => ?_; refine c_end ?_; refine xT ?_; refine c_ret ?_; refine xTr ?_; cases hF
    refine r_ret (v := _) hE rfl ⟨_, _, _, rfl, hI.nil, rfl, rfl⟩
  replace hF := cf hb27 hF; refine c_skip ?_; refine xT ?_; refine c_seq ?_; refine c_reg ?_; refine run tt_ok 1 hE rfl fun a hE => ?_; rcases (h2).cases with ⟨hp8, rfl⟩ | ⟨y6, b7, cs, hp8, rfl, hR9, hA10⟩
  · cases op_n hp8 hF
  replace hF := op_s hp8 hF; obtain ⟨A11, c12, A14, A16, c17, A19, c20, rfl, h13, h15, h18, h21⟩ := Tlattice_Lattice.inv.1 hR9; refine run tt_ok 2 hE rfl fun a hE => ?_
  refine s_rt hI hE rfl (f_loadG tt_ok hA10 1 rfl rfl rfl rfl) rfl fun a hE => ?_; refine run tt_ok 1 hE rfl fun a hE => ?_
  obtain ⟨c22, u23, hr24, hu25, hrt26⟩ := f_lookG key_str h15 um_73 uk_9 true hE (L := []) (x := .tmp 14) (y := .tmp 15) rfl rfl z_3 (rep_int.2 rfl) rfl; obtain rfl : c22 = [u23] := hu25; obtain rfl := rep1_int.1 hr24
  refine s_rt hI hE rfl (hrt26 _ _ _) rfl fun a hE => ?_; refine run tt_ok 5 hE rfl fun a hE => ?_; refine c_end ?_; refine xT ?_; refine c_seq ?_; refine c_reg ?_; refine run tt_ok 4 hE rfl fun a hE => ?_; refine c_end ?_
  refine xT ?_; refine c_ret ?_; cases hF; refine r_ret (v := _) hE rfl ⟨_, _, _, rfl, hI.nil, rfl, rfl⟩

theorem cl_92 : Callable Try.prog 92 := ⟨_, Try.func92, by kernel_rfl, by kernel_rfl⟩

def schema_Catalog_levels.C (s : Tschema_Catalog → TTable → TRelation → Option (Int × Tschema_Catalog × TRelation)) : Prop := ∀ (p0 : Tschema_Catalog) (p1 : TTable) (p2 : TRelation) (r : Int × Tschema_Catalog × TRelation), s p0 p1 p2 = some r → ∀ (w0 : World) (G0 : GH) (D0 : List Nat) (b1 : Nat) (A2 : Option Addr) (u4 : Value) (u5 : Value) (u6 : Value) (u7 : Value) (cs17 : List Value) (b19 : Nat) (A22 : Option Addr) (c23 : Nat) (cs24 : List Value) (u26 : Value) (u27 : Value), Inv w0 G0 D0 G0 [.blk b1 [.pointer A2, u4, u5, u6, u7, .int .i64 p0.limit_] 103, .blk b19 [.string p2.Name, .int .i64 p2.Rows, .slice A22 p2.Cols.length c23, u26, .int .i64 p2.Hide, u27] 109, .row (.slice A22 p2.Cols.length c23) 112 4 p2.Cols.length cs24] w0 → (Pt G0 A2 78 Tlattice_Lattice.d p0.lattice_) → (Rep G0 p1.d cs17) → (RL G0 4 (p2.Cols.map TField.d) cs24) → Calls Try.prog 92 #[.pointer (some ⟨b1, 0, none⟩), .agg ⟨cs17⟩, .pointer (some ⟨b19, 0, none⟩)] w0 (Ret w0 G0 D0 fun G' L' v => ∃ A1_2 c1_2 e1_2, L' = [.blk b1 [.pointer A2, u4, u5, u6, u7, .int .i64 p0.limit_] 103, .blk b19 [.string p2.Name, .int .i64 r.2.2.Rows, .slice A1_2 r.2.2.Cols.length c1_2, u26, .int .i64 p2.Hide, u27] 109, .row (.slice A1_2 r.2.2.Cols.length c1_2) 112 4 r.2.2.Cols.length e1_2] ∧ v = .int .i64 r.1 ∧ RL G' 4 (r.2.2.Cols.map TField.d) e1_2)

theorem schema_Catalog_levels.ok (k : Nat) : schema_Catalog_levels.C (schema_Catalog_levels k) := by
  intro p0 p1 p2 r hF w0 G0 D0 b1 A2 u4 u5 u6 u7 cs17 b19 A22 c23 cs24 u26 u27 hI h3 hR18 hR25
  unfold schema_Catalog_levels at hF
  obtain ⟨A8, c9, A11, c12, A14, c15, rfl, h10, h13, h16⟩ := TTable.inv.1 hR18
  refine calls_of_wp Try.func92 rfl ?_
  have hE : Env _ 58 [(0, .pointer (some ⟨b1, 0, none⟩)), (1, .agg ⟨[.string p1.Name, .string p1.Rows, .slice A8 p1.Cols.length c9, .slice A11 p1.Key.length c12, .string p1.Hide, .slice A14 p1.When.length c15]⟩), (2, .pointer (some ⟨b19, 0, none⟩))] := Env.start ⟨[.pointer (some ⟨b1, 0, none⟩), .agg ⟨[.string p1.Name, .string p1.Rows, .slice A8 p1.Cols.length c9, .slice A11 p1.Key.length c12, .string p1.Hide, .slice A14 p1.When.length c15]⟩, .pointer (some ⟨b19, 0, none⟩)]⟩ 55
  refine c_seq ?_; refine c_reg ?_; refine s_box hI hE rfl rfl rfl rfl fun a w b28 hE hI => ?_; refine run tt_ok 1 hE rfl fun a hE => ?_; refine c_end ?_; refine xT ?_; refine c_seq ?_
  refine c_draw mixed (by kernel_rfl) hI ?_; clear hI; refine runq tt_ok 3 hE rfl fun a hE => ?_; refine q_rt hE rfl (f_loadB tt_ok 1 rfl rfl rfl rfl) rfl fun a hE => ?_; refine runq tt_ok 1 hE rfl fun a hE => ?_
  refine q_rt hE rfl (f_loadB tt_ok 0 rfl rfl rfl rfl) rfl fun a hE => ?_; obtain ⟨y32, hy33, hF⟩ := bd hF
  refine q_call cl_19 hE rfl rfl (fun w hI => (lattice_Lattice_Find.ok k) _ _ _ hy33 _ _ _ hI.pass0 h3) (fun _ _ _ h => h.2) rfl fun a hE => ?_; refine runq tt_ok 5 hE rfl fun a hE => ?_; refine q_end ?_; intro w hI
  refine xT ?_; refine c_seq ?_; refine c_seq ?_; refine c_reg ?_; refine run tt_ok 2 hE rfl fun a hE => ?_; refine c_end ?_; refine xT ?_; refine c_if (b := !y32.2) hE rfl (fun hb171 => ?_) (fun hb171 => ?_)
  · replace hF := ct hb171 hF; refine c_seq ?_; refine c_reg ?_; refine run tt_ok 1 hE rfl fun a hE => ?_; refine c_end ?_; refine xT ?_; refine c_ret ?_; refine xTr ?_; cases hF
    refine r_ret (v := _) hE rfl ⟨_, _, _, rfl, (hI.pick [1, 2, 3] (by decide) rfl), A22, c23, cs24, rfl, rfl, hR25⟩
  replace hF := cf hb171 hF; refine c_skip ?_; refine xT ?_; refine c_seq ?_; refine c_reg ?_; refine run tt_ok 4 hE rfl fun a hE => ?_
  refine s_storeB tt_ok 2 hI hE rfl rfl rfl rfl rfl rfl rfl rfl rfl rfl fun a w hE hI => ?_; refine c_end ?_; refine xT ?_; refine c_seq ?_; refine c_seq ?_; refine c_reg ?_; refine run tt_ok 1 hE rfl fun a hE => ?_
  refine s_rt hI hE rfl (f_loadB tt_ok 0 rfl rfl rfl rfl) rfl fun a hE => ?_; refine run tt_ok 2 hE rfl fun a hE => ?_; refine c_end ?_; refine xT ?_; obtain ⟨o123, hO124, hK125⟩ := bd hF; clear hF
  refine c_cut (fun a' w' => ∃ (s127 : (List TField)) (G128 : GH) (A130 : Option Addr) (c131 : Nat) (cs132 : List Value), o123 = .go s127 ∧ G0.le G128 ∧ Env a' 58 [] ∧ Inv w0 G0 D0 G128 [.blk b1 [.pointer A2, u4, u5, u6, u7, .int .i64 p0.limit_] 103, .blk b19 [.string p2.Name, .int .i64 y32.1, .slice A130 s127.length c131, u26, .int .i64 p2.Hide, u27] 109, .row (.slice A130 s127.length c131) 112 4 s127.length cs132] w' ∧ RL G128 4 (s127.map TField.d) cs132) ?_ ?_
  rotate_left
  · clear hE hI hO124; rintro a w ⟨s127, G128, A130, c131, cs132, rfl, hg134, hE, hI, hR133⟩; have hF := lrk_go hK125; clear hK125; refine xT ?_; refine c_seq ?_; refine c_reg ?_; refine run tt_ok 1 hE rfl fun a hE => ?_
    refine c_end ?_; refine xT ?_; refine c_ret ?_; cases hF; refine r_ret (v := _) hE rfl ⟨_, _, _, rfl, hI, A130, c131, cs132, rfl, rfl, hR133⟩
  refine c_block ?_
  refine wp_loop_ghost (fun n' a' w' => ∃ (i137 : Nat) (rest139 : List TCol) (s122 : (List TField)) (G116 : GH) (A118 : Option Addr) (c119 : Nat) (cs120 : List Value), n' = rest139.length ∧ i137 ≤ p1.Cols.length ∧ p1.Cols.drop i137 = rest139 ∧ forL (schema_Catalog_levels.b0 k p0 p2 y32) i137 rest139 s122 = some o123 ∧ G0.le G116 ∧ Env a' 58 [(32, .int .i64 (i137 : Int)), (0, .pointer (some ⟨b1, 0, none⟩)), (2, .pointer (some ⟨b19, 0, none⟩)), (30, .slice A8 p1.Cols.length c9), (31, .int .i64 (p1.Cols.length : Int))] ∧ Inv w0 G0 D0 G116 [.blk b1 [.pointer A2, u4, u5, u6, u7, .int .i64 p0.limit_] 103, .blk b19 [.string p2.Name, .int .i64 y32.1, .slice A118 s122.length c119, u26, .int .i64 p2.Hide, u27] 109, .row (.slice A118 s122.length c119) 112 4 s122.length cs120] w' ∧ RL G116 4 (s122.map TField.d) cs120) _ ⟨0, _, _, G0, A22, c23, cs24, rfl, Nat.zero_le _, rfl, hO124, (GH.le.refl _), hE.keep ⟨rfl, rfl, rfl, rfl, rfl, trivial⟩, (hI.dropN 1 rfl), hR25⟩ ?_
  clear hE hI hO124; rintro m136 a w ⟨i137, rest139, s122, G116, A118, c119, cs120, rfl, hi143, hd140, hO124, hg126, hE, hI, hR121⟩; rcases rest139 with _ | ⟨x138, rest139⟩
  · obtain rfl := forL_nil hO124; have hlt142 := drop_nil hd140 hi143; clear hd140; refine c_seq ?_; refine c_reg ?_; refine run tt_ok 1 hE rfl fun a hE => ?_; refine c_end ?_; refine xT ?_; refine c_seq ?_
    have hE := hE.tr (t := 33) rfl (decide_eq_false (by omega)); refine c_false hE rfl ?_; refine c_exit ?_; refine xTe ?_; refine xTe ?_; refine xBh ?_; refine xT ?_
    exact ⟨_, G116, A118, c119, cs120, rfl, hg126, hE.keep trivial, hI, hR121⟩
  obtain ⟨stp135, hF, hO124⟩ := forL_step hO124; obtain ⟨hx141, hd140, hlt142⟩ := drop_cons hd140; unfold schema_Catalog_levels.b0 at hF; refine c_seq ?_; refine c_reg ?_; refine run tt_ok 1 hE rfl fun a hE => ?_
  refine c_end ?_; refine xT ?_; refine c_seq ?_; have hE := hE.tr (t := 33) rfl (decide_eq_true (by omega)); refine c_true hE rfl ?_; refine c_skip ?_; refine xT ?_; refine c_seq ?_; refine c_block ?_; refine c_seq ?_
  refine c_reg ?_; refine run tt_ok 1 hE rfl fun a hE => ?_; obtain ⟨b145, o146, cs, hb149, hR148, hA147⟩ := sl_at (h10.mono hg126) (Int.natCast_nonneg _) (natIdx hx141); obtain rfl := TCol.inv.1 hR148
  refine s_rt hI hE rfl (f_idx tt_ok hb149 rfl rfl rfl) rfl fun a hE => ?_; refine s_rt hI hE rfl (f_loadG tt_ok hA147 0 rfl rfl rfl rfl) rfl fun a hE => ?_; refine s_alloc hI hE rfl z_142 rfl rfl fun a w b150 hE hI => ?_
  refine run tt_ok 1 hE rfl fun a hE => ?_; refine s_storeB tt_ok 0 hI hE rfl rfl rfl rfl rfl rfl rfl rfl rfl rfl fun a w hE hI => ?_; refine c_end ?_; refine xT ?_; refine c_seq ?_
  refine c_draw mixed (by kernel_rfl) hI ?_; clear hI; refine runq tt_ok 3 hE rfl fun a hE => ?_; refine q_rt hE rfl (f_loadB tt_ok 1 rfl rfl rfl rfl) rfl fun a hE => ?_; refine runq tt_ok 1 hE rfl fun a hE => ?_
  refine q_rt hE rfl (f_loadB tt_ok 0 rfl rfl rfl rfl) rfl fun a hE => ?_; obtain ⟨y154, hy155, hF⟩ := bd hF
  refine q_call cl_19 hE rfl rfl (fun w hI => (lattice_Lattice_Find.ok k) _ _ _ hy155 _ _ _ hI.pass0 (h3.mono hg126)) (fun _ _ _ h => h.2) rfl fun a hE => ?_; refine runq tt_ok 5 hE rfl fun a hE => ?_
  refine q_end ?_; intro w hI; refine xT ?_; refine c_seq ?_; refine c_seq ?_; refine c_reg ?_; refine run tt_ok 2 hE rfl fun a hE => ?_; refine c_end ?_; refine xT ?_
  refine c_if (b := !y154.2) hE rfl (fun hb170 => ?_) (fun hb170 => ?_)
  · replace hF := ct hb170 hF; refine c_seq ?_; refine c_reg ?_; refine run tt_ok 1 hE rfl fun a hE => ?_; refine c_end ?_; refine xT ?_; refine c_ret ?_; refine xTr ?_; refine xBr ?_; refine xTr ?_; refine xTr ?_
    refine xBr ?_; refine xTr ?_; refine xTr ?_; cases hF; obtain rfl := nxt_ret hO124; have hF := lrk_ret hK125; cases hF
    refine r_ret (v := _) hE rfl ⟨_, _, _, rfl, (hI.pick [1, 2, 3] (by decide) rfl), A118, c119, cs120, rfl, rfl, hR121⟩
  replace hF := cf hb170 hF; refine c_skip ?_; refine xT ?_; refine c_reg ?_; refine run tt_ok 3 hE rfl fun a hE => ?_; refine s_rt hI hE rfl (f_loadB tt_ok 2 rfl rfl rfl rfl) rfl fun a hE => ?_
  refine run tt_ok 2 hE rfl fun a hE => ?_; obtain ⟨y161, hy162, hF⟩ := bd hF; obtain ⟨b167, rfl⟩ := row_ptr 3 hI rfl rfl (getO_some hy162).2; obtain ⟨ec163, hel164, hrep165, hcs166⟩ := rl_at hR121 (getO_some hy162).2
  obtain rfl := TField.inv.1 hrep165; refine s_rt hI hE rfl (f_idx tt_ok (row_idx (getO_some hy162).1 (getO_some hy162).2 b167 4) rfl rfl rfl) rfl fun a hE => ?_; refine run tt_ok 1 hE rfl fun a hE => ?_
  refine s_storeS (xs := s122) (j := (i137 : Int)) (y' := (TField.mk y161.Name y161.Type_ y161.Null y154.1)) tt_ok 3 hI hE rfl rfl hcs166 hel164 (row_len hR121 (getO_some hy162).2) 3 rfl rfl rfl rfl rfl rfl rfl rfl fun a w hE hl168 hI => ?_
  have hR169 : RL G116 4 ((setO s122 (i137 : Int) (TField.mk y161.Name y161.Type_ y161.Null y154.1)).map TField.d) (putAt cs120 ((i137 : Int).toNat * 4) [.string y161.Name, .int .i64 y161.Type_, .bool y161.Null, .int .i64 y154.1]) := RL.set hR121 (row_lt (getO_some hy162).2) (TField.inv.2 rfl) hl168
  have hE := hE.setV (t := 52) rfl (sl_set (xs := s122) (j := (i137 : Int)) (y' := (TField.mk y161.Name y161.Type_ y161.Null y154.1)))
  rw [sl_set (xs := s122) (j := (i137 : Int)) (y' := (TField.mk y161.Name y161.Type_ y161.Null y154.1))] at hI; refine c_end ?_; refine xB ?_; refine xT ?_; refine c_reg ?_; refine run tt_ok 2 hE rfl fun a hE => ?_
  refine c_end ?_; refine xT ?_; cases hF; have hE := hE.setI (t := 32) rfl (w64_succ hlt142 (len_le h10))
  exact ⟨rest139.length, Nat.lt_succ_self _, i137 + 1, rest139, _, G116, (some ⟨b167, 0, none⟩), c119, (putAt cs120 ((i137 : Int).toNat * 4) [.string y161.Name, .int .i64 y161.Type_, .bool y161.Null, .int .i64 y154.1]), rfl, hlt142, hd140, hO124, hg126, hE.keep ⟨rfl, rfl, rfl, rfl, rfl, trivial⟩, (hI.dropN 1 rfl), hR169⟩

theorem cl_46 : Callable Try.prog 46 := ⟨_, Try.func46, by kernel_rfl, by kernel_rfl⟩

def lattice_Lattice_is.C (s : (Option Tlattice_Lattice) → Int → Option Bool) : Prop := ∀ (p0 : Option Tlattice_Lattice) (p1 : Int) (r : Bool), s p0 p1 = some r → ∀ (w0 : World) (G0 : GH) (A1 : Option Addr), Inv w0 G0 [] G0 [] w0 → (Pt G0 A1 78 Tlattice_Lattice.d p0) → Calls Try.prog 46 #[.pointer A1, .int .i64 p1] w0 (Ret w0 G0 [] fun G' L' v => L' = [] ∧ v = .bool r)

theorem lattice_Lattice_is.ok (k : Nat) : lattice_Lattice_is.C (lattice_Lattice_is k) := by
  intro p0 p1 r hF w0 G0 A1 hI h2
  unfold lattice_Lattice_is at hF
  refine calls_of_wp Try.func46 rfl ?_
  have hE : Env _ 20 [(0, .pointer A1), (1, .int .i64 p1)] := Env.start ⟨[.pointer A1, .int .i64 p1]⟩ 18
  refine c_seq ?_; refine c_reg ?_; refine run tt_ok 1 hE rfl fun a hE => ?_; refine c_end ?_; refine xT ?_; refine c_seq ?_; obtain ⟨m24, hF, hR26⟩ := bd hF
  refine c_cut (fun a' w' => ∃ (G22 : GH), G0.le G22 ∧ Env a' 20 [(4, .bool m24)] ∧ Inv w0 G0 [] G22 [] w') ?_ ?_; rotate_left
  · clear hE hI; rintro a w ⟨G22, hg25, hE, hI⟩; clear hF; have hF := hR26; clear hR26; refine xT ?_; refine c_ret ?_; cases hF; refine r_ret (v := _) hE rfl ⟨_, _, _, rfl, hI.nil, rfl, rfl⟩
  refine c_reg ?_; refine run tt_ok 1 hE rfl fun a hE => ?_; refine s_rt hI hE rfl (f_pnn up_28 h2 rfl rfl) rfl fun a hE => ?_; refine run tt_ok 1 hE rfl fun a hE => ?_; rcases bool_or (!p0.isNone) with hb27 | hb27
  rotate_left
  · replace hF := cf hb27 hF; have hE := hE.tr (t := 7) rfl hb27; clear hb27; refine run tt_ok 13 hE rfl fun a hE => ?_; refine c_end ?_; refine xT ?_; cases hF; exact ⟨G0, (GH.le.refl _), hE.keep ⟨rfl, trivial⟩, hI⟩
  replace hF := ct hb27 hF; have hE := hE.tr (t := 7) rfl hb27; clear hb27; refine run tt_ok 4 hE rfl fun a hE => ?_; rcases bool_or (decide ((0 : Int) ≤ p1)) with hb28 | hb28; rotate_left
  · replace hF := cf hb28 hF; have hE := hE.tr (t := 11) rfl hb28; clear hb28; refine run tt_ok 9 hE rfl fun a hE => ?_; refine c_end ?_; refine xT ?_; cases hF; exact ⟨G0, (GH.le.refl _), hE.keep ⟨rfl, trivial⟩, hI⟩
  replace hF := ct hb28 hF; have hE := hE.tr (t := 11) rfl hb28; clear hb28; refine run tt_ok 2 hE rfl fun a hE => ?_; rcases (h2).cases with ⟨hp31, rfl⟩ | ⟨y29, b30, cs, hp31, rfl, hR32, hA33⟩
  · cases op_n hp31 hF
  replace hF := op_s hp31 hF; obtain ⟨A34, c35, A37, A39, c40, A42, c43, rfl, h36, h38, h41, h44⟩ := Tlattice_Lattice.inv.1 hR32; refine run tt_ok 2 hE rfl fun a hE => ?_
  refine s_rt hI hE rfl (f_loadG tt_ok hA33 0 rfl rfl rfl rfl) rfl fun a hE => ?_; refine run tt_ok 4 hE rfl fun a hE => ?_; refine c_end ?_; refine xT ?_; cases hF; exact ⟨G0, (GH.le.refl _), hE.keep ⟨rfl, trivial⟩, hI⟩

theorem cl_13 : Callable Try.prog 13 := ⟨_, Try.func13, by kernel_rfl, by kernel_rfl⟩

def lattice_Lattice_Leq.C (s : (Option Tlattice_Lattice) → Int → Int → Option Bool) : Prop := ∀ (p0 : Option Tlattice_Lattice) (p1 : Int) (p2 : Int) (r : Bool), s p0 p1 p2 = some r → ∀ (w0 : World) (G0 : GH) (A1 : Option Addr), Inv w0 G0 [] G0 [] w0 → (Pt G0 A1 78 Tlattice_Lattice.d p0) → Calls Try.prog 13 #[.pointer A1, .int .i64 p1, .int .i64 p2] w0 (Ret w0 G0 [] fun G' L' v => L' = [] ∧ v = .bool r)

theorem lattice_Lattice_Leq.ok (k : Nat) : lattice_Lattice_Leq.C (lattice_Lattice_Leq k) := by
  intro p0 p1 p2 r hF w0 G0 A1 hI h2
  unfold lattice_Lattice_Leq at hF
  refine calls_of_wp Try.func13 rfl ?_
  have hE : Env _ 26 [(0, .pointer A1), (1, .int .i64 p1), (2, .int .i64 p2)] := Env.start ⟨[.pointer A1, .int .i64 p1, .int .i64 p2]⟩ 23
  refine c_seq ?_; refine c_reg ?_; refine run tt_ok 1 hE rfl fun a hE => ?_; refine c_end ?_; refine xT ?_; refine c_seq ?_; obtain ⟨m43, hF, hR45⟩ := bd hF
  refine c_cut (fun a' w' => ∃ (G41 : GH), G0.le G41 ∧ Env a' 26 [(6, .bool m43)] ∧ Inv w0 G0 [] G41 [] w') ?_ ?_; rotate_left
  · clear hE hI; rintro a w ⟨G41, hg44, hE, hI⟩; clear hF; have hF := hR45; clear hR45; refine xT ?_; refine c_ret ?_; cases hF; refine r_ret (v := _) hE rfl ⟨_, _, _, rfl, hI.nil, rfl, rfl⟩
  refine c_reg ?_; refine run tt_ok 2 hE rfl fun a hE => ?_; obtain ⟨y46, hy47, hF⟩ := bd hF; refine s_call0 cl_46 hI hE rfl rfl ((lattice_Lattice_is.ok k) _ _ _ hy47 _ _ _ hI.pass0 h2) rfl ?_; clear hE hI
  rintro a w _ G49 _ ⟨rfl, rfl⟩ hg48 hI hE; refine run tt_ok 1 hE rfl fun a hE => ?_; rcases bool_or y46 with hb50 | hb50; rotate_left
  · replace hF := cf hb50 hF; have hE := hE.tr (t := 10) rfl hb50; clear hb50; refine run tt_ok 16 hE rfl fun a hE => ?_; refine c_end ?_; refine xT ?_; cases hF; exact ⟨G49, hg48, hE.keep ⟨rfl, trivial⟩, hI⟩
  replace hF := ct hb50 hF; have hE := hE.tr (t := 10) rfl hb50; clear hb50; refine run tt_ok 2 hE rfl fun a hE => ?_; obtain ⟨y51, hy52, hF⟩ := bd hF
  refine s_call0 cl_46 hI hE rfl rfl ((lattice_Lattice_is.ok k) _ _ _ hy52 _ _ _ hI.pass0 (h2.mono hg48)) rfl ?_; clear hE hI; rintro a w _ G54 _ ⟨rfl, rfl⟩ hg53 hI hE; refine run tt_ok 2 hE rfl fun a hE => ?_
  rcases bool_or y51 with hb55 | hb55; rotate_left
  · replace hF := cf hb55 hF; have hE := hE.tr (t := 15) rfl hb55; clear hb55; refine run tt_ok 11 hE rfl fun a hE => ?_; refine c_end ?_; refine xT ?_; cases hF; exact ⟨G54, (hg48.trans hg53), hE.keep ⟨rfl, trivial⟩, hI⟩
  replace hF := ct hb55 hF; have hE := hE.tr (t := 15) rfl hb55; clear hb55; refine run tt_ok 1 hE rfl fun a hE => ?_; rcases ((h2.mono (hg48.trans hg53))).cases with ⟨hp58, rfl⟩ | ⟨y56, b57, cs, hp58, rfl, hR59, hA60⟩
  · cases op_n hp58 hF
  replace hF := op_s hp58 hF; obtain ⟨A61, c62, A64, A66, c67, A69, c70, rfl, h63, h65, h68, h71⟩ := Tlattice_Lattice.inv.1 hR59; refine run tt_ok 2 hE rfl fun a hE => ?_
  refine s_rt hI hE rfl (f_loadG tt_ok hA60 2 rfl rfl rfl rfl) rfl fun a hE => ?_; refine run tt_ok 1 hE rfl fun a hE => ?_; obtain ⟨y76, hy77, hF⟩ := bd hF
  obtain ⟨b72, o73, cs, hb78, hR75, hA74⟩ := sl_at h68 (getO_some hy77).1 (getO_some hy77).2; obtain rfl := rep_int.1 hR75; refine s_rt hI hE rfl (f_idx tt_ok hb78 rfl rfl rfl) rfl fun a hE => ?_
  refine s_rt hI hE rfl (f_loadG tt_ok hA74 0 rfl rfl rfl rfl) rfl fun a hE => ?_; refine run tt_ok 1 hE rfl fun a hE => ?_; obtain ⟨y79, hy80, hF⟩ := bd hF
  refine s_call0 cl_47 hI hE rfl rfl ((lattice_set_has.ok k) _ _ _ hy80 _ _  hI.pass0 ) rfl ?_; clear hE hI; rintro a w _ G82 _ ⟨rfl, rfl⟩ hg81 hI hE; refine run tt_ok 2 hE rfl fun a hE => ?_; refine c_end ?_; refine xT ?_
  cases hF; exact ⟨G82, ((hg48.trans hg53).trans hg81), hE.keep ⟨rfl, trivial⟩, hI⟩

theorem cl_119 : Callable Try.prog 119 := ⟨_, Try.func119, by kernel_rfl, by kernel_rfl⟩

def slices_Index_int_int.C (s : (List Int) → Int → Option Int) : Prop := ∀ (p0 : List Int) (p1 : Int) (r : Int), s p0 p1 = some r → ∀ (w0 : World) (G0 : GH) (A1 : Option Addr) (c2 : Nat), Inv w0 G0 [] G0 [] w0 → (Sl G0 A1 c2 1 (p0.map (D.int .i64))) → Calls Try.prog 119 #[.slice A1 p0.length c2, .int .i64 p1] w0 (Ret w0 G0 [] fun G' L' v => L' = [] ∧ v = .int .i64 r)

theorem slices_Index_int_int.ok (k : Nat) : slices_Index_int_int.C (slices_Index_int_int k) := by
  intro p0 p1 r hF w0 G0 A1 c2 hI h3
  unfold slices_Index_int_int at hF
  refine calls_of_wp Try.func119 rfl ?_
  have hE : Env _ 19 [(0, .slice A1 p0.length c2), (1, .int .i64 p1)] := Env.start ⟨[.slice A1 p0.length c2, .int .i64 p1]⟩ 17
  refine c_seq ?_; refine c_reg ?_; refine run tt_ok 1 hE rfl fun a hE => ?_; refine c_end ?_; refine xT ?_; refine c_seq ?_; refine c_seq ?_; refine c_reg ?_; refine run tt_ok 3 hE rfl fun a hE => ?_; refine c_end ?_
  refine xT ?_; obtain ⟨o17, hO18, hK19⟩ := bd hF; clear hF; refine c_cut (fun a' w' => ∃ (s21 : Unit) (G22 : GH), o17 = .go s21 ∧ G0.le G22 ∧ Env a' 19 [] ∧ Inv w0 G0 [] G22 [] w') ?_ ?_; rotate_left
  · clear hE hI hO18; rintro a w ⟨s21, G22, rfl, hg23, hE, hI⟩; have hF := lrk_go hK19; clear hK19; refine xT ?_; refine c_seq ?_; refine c_reg ?_; refine run tt_ok 1 hE rfl fun a hE => ?_; refine c_end ?_; refine xT ?_
    refine c_ret ?_; cases hF; refine r_ret (v := _) hE rfl ⟨_, _, _, rfl, hI.nil, rfl, rfl⟩
  refine c_block ?_
  refine wp_loop_ghost (fun n' a' w' => ∃ (i26 : Nat) (rest28 : List Int) (s16 : Unit) (G15 : GH), n' = rest28.length ∧ i26 ≤ p0.length ∧ p0.drop i26 = rest28 ∧ forL (slices_Index_int_int.b0 k p1) i26 rest28 s16 = some o17 ∧ G0.le G15 ∧ Env a' 19 [(8, .int .i64 (i26 : Int)), (0, .slice A1 p0.length c2), (1, .int .i64 p1), (7, .int .i64 (p0.length : Int))] ∧ Inv w0 G0 [] G15 [] w') _ ⟨0, _, _, G0, rfl, Nat.zero_le _, rfl, hO18, (GH.le.refl _), hE.keep ⟨rfl, rfl, rfl, rfl, trivial⟩, hI⟩ ?_
  clear hE hI hO18; rintro m25 a w ⟨i26, rest28, s16, G15, rfl, hi32, hd29, hO18, hg20, hE, hI⟩; rcases rest28 with _ | ⟨x27, rest28⟩
  · obtain rfl := forL_nil hO18; have hlt31 := drop_nil hd29 hi32; clear hd29; refine c_seq ?_; refine c_reg ?_; refine run tt_ok 1 hE rfl fun a hE => ?_; refine c_end ?_; refine xT ?_; refine c_seq ?_
    have hE := hE.tr (t := 9) rfl (decide_eq_false (by omega)); refine c_false hE rfl ?_; refine c_exit ?_; refine xTe ?_; refine xTe ?_; refine xBh ?_; refine xT ?_; exact ⟨_, G15, rfl, hg20, hE.keep trivial, hI⟩
  obtain ⟨stp24, hF, hO18⟩ := forL_step hO18; obtain ⟨hx30, hd29, hlt31⟩ := drop_cons hd29; unfold slices_Index_int_int.b0 at hF; refine c_seq ?_; refine c_reg ?_; refine run tt_ok 1 hE rfl fun a hE => ?_; refine c_end ?_
  refine xT ?_; refine c_seq ?_; have hE := hE.tr (t := 9) rfl (decide_eq_true (by omega)); refine c_true hE rfl ?_; refine c_skip ?_; refine xT ?_; refine c_seq ?_; refine c_block ?_; refine c_seq ?_; refine c_reg ?_
  refine run tt_ok 2 hE rfl fun a hE => ?_; refine c_end ?_; refine xT ?_; refine c_seq ?_; refine c_reg ?_; refine run tt_ok 3 hE rfl fun a hE => ?_
  obtain ⟨b34, o35, cs, hb38, hR37, hA36⟩ := sl_at (h3.mono hg20) (Int.natCast_nonneg _) (natIdx hx30); obtain rfl := rep_int.1 hR37; refine s_rt hI hE rfl (f_idx tt_ok hb38 rfl rfl rfl) rfl fun a hE => ?_
  refine s_rt hI hE rfl (f_loadG tt_ok hA36 0 rfl rfl rfl rfl) rfl fun a hE => ?_; refine run tt_ok 1 hE rfl fun a hE => ?_; refine c_end ?_; refine xT ?_
  refine c_if (b := decide (p1 = x27)) hE rfl (fun hb39 => ?_) (fun hb39 => ?_)
  · replace hF := ct hb39 hF; refine c_seq ?_; refine c_reg ?_; refine run tt_ok 2 hE rfl fun a hE => ?_; refine c_end ?_; refine xT ?_; refine c_ret ?_; refine xBr ?_; refine xTr ?_; refine xTr ?_; refine xBr ?_
    refine xTr ?_; refine xTr ?_; cases hF; obtain rfl := nxt_ret hO18; have hF := lrk_ret hK19; cases hF; refine r_ret (v := _) hE rfl ⟨_, _, _, rfl, hI.nil, rfl, rfl⟩
  replace hF := cf hb39 hF; refine c_skip ?_; refine xB ?_; refine xT ?_; refine c_reg ?_; refine run tt_ok 2 hE rfl fun a hE => ?_; refine c_end ?_; refine xT ?_; cases hF
  have hE := hE.setI (t := 8) rfl (w64_succ hlt31 (len_le h3)); exact ⟨rest28.length, Nat.lt_succ_self _, i26 + 1, rest28, _, G15, rfl, hlt31, hd29, hO18, hg20, hE.keep ⟨rfl, rfl, rfl, rfl, trivial⟩, hI⟩

theorem cl_106 : Callable Try.prog 106 := ⟨_, Try.func106, by kernel_rfl, by kernel_rfl⟩

def slices_Contains_int_int.C (s : (List Int) → Int → Option Bool) : Prop := ∀ (p0 : List Int) (p1 : Int) (r : Bool), s p0 p1 = some r → ∀ (w0 : World) (G0 : GH) (A1 : Option Addr) (c2 : Nat), Inv w0 G0 [] G0 [] w0 → (Sl G0 A1 c2 1 (p0.map (D.int .i64))) → Calls Try.prog 106 #[.slice A1 p0.length c2, .int .i64 p1] w0 (Ret w0 G0 [] fun G' L' v => L' = [] ∧ v = .bool r)
end Go.Proofs.Ytliaopbgkcdibaa
