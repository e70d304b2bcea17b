/- The contracts: what the machine does at a call is what the plain function says. Written by mk.py. -/
import Derived.Test.YtliaopbgkcdibaaCgE0
import Derived.Test.YtliaopbgkcdibaaCgE2
set_option linter.unusedVariables false
set_option linter.unusedSimpArgs false
set_option maxRecDepth 100000
namespace Go.Proofs.Ytliaopbgkcdibaa
open Go.RowKit
theorem cl_3 : Callable Try.prog 3 := ⟨_, Try.func3, by kernel_rfl, by kernel_rfl⟩

def law03_LatticeEdges.C (s : (List ByteArray) → (List TPair) → Int → Option Bool) : Prop := ∀ (p0 : List ByteArray) (p1 : List TPair) (p2 : Int) (r : Bool), s p0 p1 p2 = some r → ∀ (w0 : World) (G0 : GH) (A1 : Option Addr) (c2 : Nat) (A4 : Option Addr) (c5 : Nat), Inv w0 G0 [] G0 [] w0 → (Sl G0 A1 c2 1 (p0.map D.str)) → (Sl G0 A4 c5 2 (p1.map TPair.d)) → Calls Try.prog 3 #[.slice A1 p0.length c2, .slice A4 p1.length c5, .int .i64 p2] w0 (Ret w0 G0 [] fun G' L' v => L' = [] ∧ v = .bool r)

theorem law03_LatticeEdges.ok (k : Nat) : law03_LatticeEdges.C (law03_LatticeEdges k) := by
  intro p0 p1 p2 r hF w0 G0 A1 c2 A4 c5 hI h3 h6
  unfold law03_LatticeEdges at hF
  refine calls_of_wp Try.func3 rfl ?_
  have hE : Env _ 149 [(0, .slice A1 p0.length c2), (1, .slice A4 p1.length c5), (2, .int .i64 p2)] := Env.start ⟨[.slice A1 p0.length c2, .slice A4 p1.length c5, .int .i64 p2]⟩ 146
  refine c_seq ?_; refine c_reg ?_; refine run tt_ok 1 hE rfl fun a hE => ?_; refine c_end ?_; refine xT ?_; refine c_seq ?_; refine c_seq ?_; obtain ⟨m15, hF, hR17⟩ := bd hF
  refine c_cut (fun a' w' => ∃ (G13 : GH), G0.le G13 ∧ Env a' 149 [(0, .slice A1 p0.length c2), (1, .slice A4 p1.length c5), (2, .int .i64 p2), (27, .bool m15)] ∧ Inv w0 G0 [] G13 [] w') ?_ ?_
  · refine c_reg ?_; refine run tt_ok 2 hE rfl fun a hE => ?_; obtain ⟨y1317, hy1318, hF⟩ := bd hF; refine s_call0 cl_10 hI hE rfl rfl ((law03_Few.ok k) _ _ _ hy1318 _ _ _ _ _ _ hI.pass0 h3 h6) rfl ?_; clear hE hI
    rintro a w _ G1320 _ ⟨rfl, rfl⟩ hg1319 hI hE; refine run tt_ok 2 hE rfl fun a hE => ?_; rcases bool_or (!y1317) with hb1321 | hb1321
    · replace hF := ct hb1321 hF; have hE := hE.tr (t := 23) rfl hb1321; clear hb1321; refine run tt_ok 4 hE rfl fun a hE => ?_; refine c_end ?_; refine xT ?_; cases hF
      exact ⟨G1320, hg1319, hE.keep ⟨rfl, rfl, rfl, rfl, trivial⟩, hI⟩
    replace hF := cf hb1321 hF; have hE := hE.tr (t := 23) rfl hb1321; clear hb1321; refine run tt_ok 4 hE rfl fun a hE => ?_; refine c_end ?_; refine xT ?_; cases hF
    exact ⟨G1320, hg1319, hE.keep ⟨rfl, rfl, rfl, rfl, trivial⟩, hI⟩
  clear hE hI; rintro a w ⟨G13, hg16, hE, hI⟩; clear hF; have hF := hR17; clear hR17; refine xT ?_; refine c_if (b := m15) hE rfl (fun hb1316 => ?_) (fun hb1316 => ?_)
  · replace hF := ct hb1316 hF; refine c_seq ?_; refine c_reg ?_; obtain ⟨y19, hy20, hF⟩ := bd hF; refine s_call0 cl_11 hI hE rfl rfl ((law03_alive.ok k) _ hy20 _ _  hI.pass0 ) rfl ?_; clear hE hI
    rintro a w _ G22 _ ⟨rfl, rfl⟩ hg21 hI hE; refine run tt_ok 1 hE rfl fun a hE => ?_; refine c_end ?_; refine xT ?_; refine c_ret ?_; refine xTr ?_; cases hF; refine r_ret (v := _) hE rfl ⟨_, _, _, rfl, hI.nil, rfl, rfl⟩
  replace hF := cf hb1316 hF; refine c_skip ?_; refine xT ?_; refine c_seq ?_; refine c_reg ?_; refine run tt_ok 3 hE rfl fun a hE => ?_; obtain ⟨z25, hz26, hF⟩ := bd hF
  refine s_rt hI hE rfl (f_rem rfl rfl hz26) rfl fun a hE => ?_; refine run tt_ok 5 hE rfl fun a hE => ?_; obtain ⟨z27, hz28, hF⟩ := bd hF; refine s_rt hI hE rfl (f_rem rfl rfl hz28) rfl fun a hE => ?_
  refine run tt_ok 1 hE rfl fun a hE => ?_; refine c_end ?_; refine xT ?_; refine c_seq ?_
  refine c_mix [0, 4, 8] [(1, 0), (2, 0), (3, 0), (5, 0), (6, 0), (7, 0), (0, 3), (4, 3), (8, 3), (9, 0)] [] mixed (by kernel_rfl) hI ?_; clear hI; intro w hI; have hS := hI.sw (Ls := []) [] (by decide) rfl (GH.le.refl _)
  refine mix_run tt_ok 2 hE rfl fun a hE => ?_; obtain ⟨z72, hz73, hF⟩ := bd hF
  obtain ⟨A74, c75, h76, hrt77⟩ := f_cut (t := 23) (x := .tmp 40) (lo := some (.tmp 41)) (hi := none) tt_ok hE rfl (h6.mono hg16) rfl rfl rfl hz73; refine d_rt hE rfl rfl (hrt77 _) rfl fun a hE => ?_
  refine mix_run tt_ok 2 hE rfl fun a hE => ?_; obtain ⟨z78, hz79, hF⟩ := bd hF
  obtain ⟨A80, c81, h82, hrt83⟩ := f_cut (t := 23) (x := .tmp 44) (lo := none) (hi := some (.tmp 45)) tt_ok hE rfl (h6.mono hg16) rfl rfl rfl hz79; refine d_rt hE rfl rfl (hrt83 _) rfl fun a hE => ?_; refine d_last rfl ?_
  refine s_bsl ai_23 hI hE rfl rfl rfl rfl rfl fun a w b84 hE hI => ?_; have hR86 : RL G13 2 (([] : List TPair).map TPair.d) [] := RL.nil; refine d_nextl ?_; refine d_last rfl ?_; obtain ⟨_, hb87, hF⟩ := bd hF
  refine s_appG (f := TPair.d) (xs := ([] : List TPair)) (ys := z72) ai_23 0 hI hE rfl rfl h76 rfl rfl (lim_le hb87) rfl fun a w A88 c89 cs90 hE hR92 hI => ?_; have hR91 := RL.appm hR86 hR92; refine d_nextl ?_
  refine d_last rfl ?_; obtain ⟨_, hb93, hF⟩ := bd hF; refine s_appG (f := TPair.d) (xs := (([] : List TPair) ++ z72)) (ys := z78) ai_23 0 hI hE rfl rfl h82 rfl rfl (lim_le hb93) rfl fun a w A94 c95 cs96 hE hR98 hI => ?_
  have hR97 := RL.appm hR91 hR98; refine d_nextl ?_; refine mix_run tt_ok 1 hE rfl fun a hE => ?_; refine d_end ?_; refine xT ?_; refine c_seq ?_; refine c_seq ?_; refine c_reg ?_; refine run tt_ok 3 hE rfl fun a hE => ?_
  refine c_end ?_; refine xT ?_; obtain ⟨o671, hO672, hK673⟩ := bd hF; clear hF
  refine c_cut (fun a' w' => ∃ (s675 : (List TPair)) (G676 : GH) (A678 : Option Addr) (c679 : Nat) (cs680 : List Value), o671 = .go s675 ∧ G13.le G676 ∧ Env a' 149 [(0, .slice A1 p0.length c2), (1, .slice A4 p1.length c5), (8, .slice A678 s675.length c679)] ∧ Inv w0 G0 [] G676 [.row (.slice A678 s675.length c679) 27 2 s675.length cs680] w' ∧ RL G676 2 (s675.map TPair.d) cs680) ?_ ?_
  · refine c_block ?_
    refine wp_loop_ghost (fun n' a' w' => ∃ (i1038 : Nat) (rest1040 : List TPair) (s670 : (List TPair)) (G664 : GH) (A666 : Option Addr) (c667 : Nat) (cs668 : List Value), n' = rest1040.length ∧ i1038 ≤ p1.length ∧ p1.drop i1038 = rest1040 ∧ forL (law03_LatticeEdges.b2 k p1) i1038 rest1040 s670 = some o671 ∧ G13.le G664 ∧ Env a' 149 [(50, .int .i64 (i1038 : Int)), (0, .slice A1 p0.length c2), (1, .slice A4 p1.length c5), (8, .slice A666 s670.length c667), (48, .slice A4 p1.length c5), (49, .int .i64 (p1.length : Int))] ∧ Inv w0 G0 [] G664 [.row (.slice A666 s670.length c667) 27 2 s670.length cs668] w' ∧ RL G664 2 (s670.map TPair.d) cs668) _ ⟨0, _, _, G13, A94, c95, (([] ++ cs90) ++ cs96), rfl, Nat.zero_le _, rfl, hO672, (GH.le.refl _), hE.keep ⟨rfl, rfl, rfl, rfl, rfl, rfl, trivial⟩, hI, hR97⟩ ?_
    clear hE hI hO672; rintro m1037 a w ⟨i1038, rest1040, s670, G664, A666, c667, cs668, rfl, hi1044, hd1041, hO672, hg674, hE, hI, hR669⟩; rcases rest1040 with _ | ⟨x1039, rest1040⟩
    · obtain rfl := forL_nil hO672; have hlt1043 := drop_nil hd1041 hi1044; clear hd1041; refine c_seq ?_; refine c_reg ?_; refine run tt_ok 1 hE rfl fun a hE => ?_; refine c_end ?_; refine xT ?_; refine c_seq ?_
      have hE := hE.tr (t := 51) rfl (decide_eq_false (by omega)); refine c_false hE rfl ?_; refine c_exit ?_; refine xTe ?_; refine xTe ?_; refine xBh ?_; refine xT ?_
      exact ⟨_, G664, A666, c667, cs668, rfl, hg674, hE.keep ⟨rfl, rfl, rfl, trivial⟩, hI, hR669⟩
    obtain ⟨stp1036, hF, hO672⟩ := forL_step hO672; obtain ⟨hx1042, hd1041, hlt1043⟩ := drop_cons hd1041; unfold law03_LatticeEdges.b2 at hF; refine c_seq ?_; refine c_reg ?_; refine run tt_ok 1 hE rfl fun a hE => ?_
    refine c_end ?_; refine xT ?_; refine c_seq ?_; have hE := hE.tr (t := 51) rfl (decide_eq_true (by omega)); refine c_true hE rfl ?_; refine c_skip ?_; refine xT ?_; refine c_seq ?_; refine c_block ?_; refine c_seq ?_
    refine c_reg ?_; obtain ⟨b1046, o1047, cs, hb1050, hR1049, hA1048⟩ := sl_at (h6.mono (hg16.trans hg674)) (Int.natCast_nonneg _) (natIdx hx1042); obtain rfl := TPair.inv.1 hR1049
    refine s_rt hI hE rfl (f_idx tt_ok hb1050 rfl rfl rfl) rfl fun a hE => ?_; refine s_rt hI hE rfl (f_loadG tt_ok hA1048 0 rfl rfl rfl rfl) rfl fun a hE => ?_; refine s_alloc hI hE rfl z_27 rfl rfl fun a w b1051 hE hI => ?_
    refine s_storeB tt_ok 0 hI hE rfl rfl rfl rfl rfl rfl rfl rfl rfl rfl fun a w hE hI => ?_; refine c_end ?_; refine xT ?_; refine c_seq ?_; refine c_reg ?_; refine run tt_ok 3 hE rfl fun a hE => ?_; refine c_end ?_
    refine xT ?_; obtain ⟨o1224, hO1225, hK1226⟩ := bd hF; clear hF
    refine c_cut (fun a' w' => ∃ (s1228 : (List TPair)) (G1229 : GH) (A1231 : Option Addr) (c1232 : Nat) (cs1233 : List Value), o1224 = .go s1228 ∧ G664.le G1229 ∧ Env a' 149 [(0, .slice A1 p0.length c2), (1, .slice A4 p1.length c5), (8, .slice A1231 s1228.length c1232), (48, .slice A4 p1.length c5), (49, .int .i64 (p1.length : Int)), (50, .int .i64 (i1038 : Int))] ∧ Inv w0 G0 [] G1229 [.blk b1051 [.string x1039.Low, .string x1039.High] 27, .row (.slice A1231 s1228.length c1232) 27 2 s1228.length cs1233] w' ∧ RL G1229 2 (s1228.map TPair.d) cs1233) ?_ ?_
    rotate_left
    · clear hE hI hO1225; rintro a w ⟨s1228, G1229, A1231, c1232, cs1233, rfl, hg1235, hE, hI, hR1234⟩; have hF := lrk_go hK1226; clear hK1226; refine xB ?_; refine xT ?_; refine c_reg ?_
      refine run tt_ok 2 hE rfl fun a hE => ?_; refine c_end ?_; refine xT ?_; cases hF; have hE := hE.setI (t := 50) rfl (w64_succ hlt1043 (len_le h6))
      exact ⟨rest1040.length, Nat.lt_succ_self _, i1038 + 1, rest1040, _, G1229, A1231, c1232, cs1233, rfl, hlt1043, hd1041, hO672, (hg674.trans hg1235), hE.keep ⟨rfl, rfl, rfl, rfl, rfl, rfl, trivial⟩, (hI.dropN 1 rfl), hR1234⟩
    refine c_block ?_
    refine wp_loop_ghost (fun n' a' w' => ∃ (i1238 : Nat) (rest1240 : List TPair) (s1223 : (List TPair)) (G1217 : GH) (A1219 : Option Addr) (c1220 : Nat) (cs1221 : List Value), n' = rest1240.length ∧ i1238 ≤ p1.length ∧ p1.drop i1238 = rest1240 ∧ forL (law03_LatticeEdges.b3 k x1039) i1238 rest1240 s1223 = some o1224 ∧ G664.le G1217 ∧ Env a' 149 [(56, .int .i64 (i1238 : Int)), (0, .slice A1 p0.length c2), (1, .slice A4 p1.length c5), (8, .slice A1219 s1223.length c1220), (10, .pointer (some ⟨b1051, 0, none⟩)), (48, .slice A4 p1.length c5), (49, .int .i64 (p1.length : Int)), (50, .int .i64 (i1038 : Int)), (54, .slice A4 p1.length c5), (55, .int .i64 (p1.length : Int))] ∧ Inv w0 G0 [] G1217 [.blk b1051 [.string x1039.Low, .string x1039.High] 27, .row (.slice A1219 s1223.length c1220) 27 2 s1223.length cs1221] w' ∧ RL G1217 2 (s1223.map TPair.d) cs1221) _ ⟨0, _, _, G664, A666, c667, cs668, rfl, Nat.zero_le _, rfl, hO1225, (GH.le.refl _), hE.keep ⟨rfl, rfl, rfl, rfl, rfl, rfl, rfl, rfl, rfl, rfl, trivial⟩, hI, hR669⟩ ?_
    clear hE hI hO1225; rintro m1237 a w ⟨i1238, rest1240, s1223, G1217, A1219, c1220, cs1221, rfl, hi1244, hd1241, hO1225, hg1227, hE, hI, hR1222⟩; rcases rest1240 with _ | ⟨x1239, rest1240⟩
    · obtain rfl := forL_nil hO1225; have hlt1243 := drop_nil hd1241 hi1244; clear hd1241; refine c_seq ?_; refine c_reg ?_; refine run tt_ok 1 hE rfl fun a hE => ?_; refine c_end ?_; refine xT ?_; refine c_seq ?_
      have hE := hE.tr (t := 57) rfl (decide_eq_false (by omega)); refine c_false hE rfl ?_; refine c_exit ?_; refine xTe ?_; refine xTe ?_; refine xBh ?_; refine xT ?_
      exact ⟨_, G1217, A1219, c1220, cs1221, rfl, hg1227, hE.keep ⟨rfl, rfl, rfl, rfl, rfl, rfl, trivial⟩, hI, hR1222⟩
    obtain ⟨stp1236, hF, hO1225⟩ := forL_step hO1225; obtain ⟨hx1242, hd1241, hlt1243⟩ := drop_cons hd1241; unfold law03_LatticeEdges.b3 at hF; refine c_seq ?_; refine c_reg ?_; refine run tt_ok 1 hE rfl fun a hE => ?_
    refine c_end ?_; refine xT ?_; refine c_seq ?_; have hE := hE.tr (t := 57) rfl (decide_eq_true (by omega)); refine c_true hE rfl ?_; refine c_skip ?_; refine xT ?_; refine c_seq ?_; obtain ⟨m1282, hF, hR1284⟩ := bd hF
    refine c_cut (fun a' w' => ∃ (G1276 : GH) (A1278 : Option Addr) (c1279 : Nat) (cs1280 : List Value), G1217.le G1276 ∧ Env a' 149 [(0, .slice A1 p0.length c2), (1, .slice A4 p1.length c5), (8, .slice A1278 m1282.length c1279), (10, .pointer (some ⟨b1051, 0, none⟩)), (48, .slice A4 p1.length c5), (49, .int .i64 (p1.length : Int)), (50, .int .i64 (i1038 : Int)), (54, .slice A4 p1.length c5), (55, .int .i64 (p1.length : Int)), (56, .int .i64 (i1238 : Int))] ∧ Inv w0 G0 [] G1276 [.blk b1051 [.string x1039.Low, .string x1039.High] 27, .row (.slice A1278 m1282.length c1279) 27 2 m1282.length cs1280] w' ∧ RL G1276 2 (m1282.map TPair.d) cs1280) ?_ ?_
    rotate_left
    · clear hE hI; rintro a w ⟨G1276, A1278, c1279, cs1280, hg1283, hE, hI, hR1281⟩; clear hF; have hF := hR1284; clear hR1284; refine xT ?_; refine c_reg ?_; refine run tt_ok 2 hE rfl fun a hE => ?_; refine c_end ?_
      refine xT ?_; cases hF; have hE := hE.setI (t := 56) rfl (w64_succ hlt1243 (len_le h6))
      exact ⟨rest1240.length, Nat.lt_succ_self _, i1238 + 1, rest1240, _, G1276, A1278, c1279, cs1280, rfl, hlt1243, hd1241, hO1225, (hg1227.trans hg1283), hE.keep ⟨rfl, rfl, rfl, rfl, rfl, rfl, rfl, rfl, rfl, rfl, trivial⟩, hI, hR1281⟩
    refine c_block ?_; refine c_seq ?_; refine c_reg ?_; obtain ⟨b1286, o1287, cs, hb1290, hR1289, hA1288⟩ := sl_at (h6.mono ((hg16.trans hg674).trans hg1227)) (Int.natCast_nonneg _) (natIdx hx1242)
    obtain rfl := TPair.inv.1 hR1289; refine s_rt hI hE rfl (f_idx tt_ok hb1290 rfl rfl rfl) rfl fun a hE => ?_; refine s_rt hI hE rfl (f_loadG tt_ok hA1288 0 rfl rfl rfl rfl) rfl fun a hE => ?_
    refine s_alloc hI hE rfl z_27 rfl rfl fun a w b1291 hE hI => ?_; refine s_storeB tt_ok 0 hI hE rfl rfl rfl rfl rfl rfl rfl rfl rfl rfl fun a w hE hI => ?_; refine c_end ?_; refine xT ?_; refine c_seq ?_
    obtain ⟨m1297, hF, hR1299⟩ := bd hF
    refine c_cut (fun a' w' => ∃ (G1295 : GH), G1217.le G1295 ∧ Env a' 149 [(0, .slice A1 p0.length c2), (1, .slice A4 p1.length c5), (8, .slice A1219 s1223.length c1220), (10, .pointer (some ⟨b1051, 0, none⟩)), (12, .pointer (some ⟨b1291, 0, none⟩)), (48, .slice A4 p1.length c5), (49, .int .i64 (p1.length : Int)), (50, .int .i64 (i1038 : Int)), (54, .slice A4 p1.length c5), (55, .int .i64 (p1.length : Int)), (56, .int .i64 (i1238 : Int)), (69, .bool m1297)] ∧ Inv w0 G0 [] G1295 [.blk b1291 [.string x1239.Low, .string x1239.High] 27, .blk b1051 [.string x1039.Low, .string x1039.High] 27, .row (.slice A1219 s1223.length c1220) 27 2 s1223.length cs1221] w') ?_ ?_
    · refine c_reg ?_; refine run tt_ok 1 hE rfl fun a hE => ?_; refine s_rt hI hE rfl (f_loadB tt_ok 1 rfl rfl rfl rfl) rfl fun a hE => ?_; refine run tt_ok 1 hE rfl fun a hE => ?_
      refine s_rt hI hE rfl (f_loadB tt_ok 0 rfl rfl rfl rfl) rfl fun a hE => ?_; refine run tt_ok 2 hE rfl fun a hE => ?_; rcases bool_or (decide (x1039.High = x1239.Low)) with hb1315 | hb1315
      · replace hF := ct hb1315 hF; have hE := hE.tr (t := 65) rfl hb1315; clear hb1315; refine run tt_ok 4 hE rfl fun a hE => ?_; refine c_end ?_; refine xT ?_; cases hF
        exact ⟨G1217, (GH.le.refl _), hE.keep ⟨rfl, rfl, rfl, rfl, rfl, rfl, rfl, rfl, rfl, rfl, rfl, rfl, trivial⟩, hI⟩
      replace hF := cf hb1315 hF; have hE := hE.tr (t := 65) rfl hb1315; clear hb1315; refine run tt_ok 4 hE rfl fun a hE => ?_; refine c_end ?_; refine xT ?_; cases hF
      exact ⟨G1217, (GH.le.refl _), hE.keep ⟨rfl, rfl, rfl, rfl, rfl, rfl, rfl, rfl, rfl, rfl, rfl, rfl, trivial⟩, hI⟩
    clear hE hI; rintro a w ⟨G1295, hg1298, hE, hI⟩; clear hF; have hF := hR1299; clear hR1299; refine xT ?_; refine c_if (b := m1297) hE rfl (fun hb1314 => ?_) (fun hb1314 => ?_); rotate_left
    · replace hF := cf hb1314 hF; refine c_skip ?_; refine xB ?_; refine xT ?_; cases hF
      exact ⟨G1295, A1219, c1220, cs1221, hg1298, hE.keep ⟨rfl, rfl, rfl, rfl, rfl, rfl, rfl, rfl, rfl, rfl, trivial⟩, (hI.dropN 1 rfl), (hR1222.mono hg1298)⟩
    replace hF := ct hb1314 hF; refine c_reg ?_; refine run tt_ok 2 hE rfl fun a hE => ?_; refine s_rt hI hE rfl (f_loadB tt_ok 1 rfl rfl rfl rfl) rfl fun a hE => ?_; refine run tt_ok 1 hE rfl fun a hE => ?_
    refine s_rt hI hE rfl (f_loadB tt_ok 0 rfl rfl rfl rfl) rfl fun a hE => ?_; refine s_rt hI hE rfl (f_build tt_ok rfl z_27 rfl rfl) rfl fun a hE => ?_; refine s_bsl ai_23 hI hE rfl rfl rfl rfl rfl fun a w b1306 hE hI => ?_
    have hR1308 : RL G1295 2 ([(TPair.mk x1039.Low x1239.High)].map TPair.d) [.string x1039.Low, .string x1239.High] := (RL.cons (TPair.inv.2 rfl) rfl RL.nil); obtain ⟨_, hb1309, hF⟩ := bd hF
    refine s_appO (f := TPair.d) (xs := s1223) (ys := [(TPair.mk x1039.Low x1239.High)]) ai_23 3 0 hI hE rfl rfl rfl hR1308 rfl rfl (lim_le hb1309) rfl fun a w A1310 c1311 hE hI => ?_
    have hR1313 := RL.appm (hR1222.mono hg1298) hR1308; refine run tt_ok 1 hE rfl fun a hE => ?_; refine c_end ?_; refine xB ?_; refine xT ?_; cases hF
    exact ⟨G1295, A1310, c1311, (cs1221 ++ [.string x1039.Low, .string x1239.High]), hg1298, hE.keep ⟨rfl, rfl, rfl, rfl, rfl, rfl, rfl, rfl, rfl, rfl, trivial⟩, (hI.dropN 2 rfl), hR1313⟩
  clear hE hI hO672; rintro a w ⟨s675, G676, A678, c679, cs680, rfl, hg682, hE, hI, hR681⟩; have hF := lrk_go hK673; clear hK673; refine xT ?_; refine c_seq ?_; refine c_reg ?_; refine run tt_ok 2 hE rfl fun a hE => ?_
  obtain ⟨y687, hy688, hF⟩ := bd hF; refine s_call0 cl_12 hI hE rfl rfl ((lattice_New.ok k) _ _ _ hy688 _ _ _ _ _ _ hI.pass0 (h3.mono (hg16.trans hg682)) (h6.mono (hg16.trans hg682))) rfl ?_; clear hE hI
  rintro a w _ G690 _ ⟨rfl, A691, rfl, h692⟩ hg689 hI hE; refine run tt_ok 5 hE rfl fun a hE => ?_; refine c_end ?_; refine xT ?_; refine c_seq ?_; refine c_reg ?_; refine run tt_ok 2 hE rfl fun a hE => ?_
  obtain ⟨G697, hg698, hI, h699⟩ := (hI.front 0).giveR (xs := s675.map TPair.d) (by simp) (hR681.mono hg689); obtain ⟨y700, hy701, hF⟩ := bd hF
  refine s_call0 cl_12 hI hE rfl rfl ((lattice_New.ok k) _ _ _ hy701 _ _ _ _ _ _ hI.pass0 (h3.mono (((hg16.trans hg682).trans hg689).trans hg698)) h699) rfl ?_; clear hE hI
  rintro a w _ G703 _ ⟨rfl, A704, rfl, h705⟩ hg702 hI hE; refine run tt_ok 5 hE rfl fun a hE => ?_; refine c_end ?_; refine xT ?_; refine c_seq ?_; refine c_seq ?_; obtain ⟨m709, hF, hR711⟩ := bd hF
  refine c_cut (fun a' w' => ∃ (G707 : GH), G703.le G707 ∧ Env a' 149 [(0, .slice A1 p0.length c2), (13, .pointer A691), (15, .pointer A704), (101, .bool m709)] ∧ Inv w0 G0 [] G707 [] w') ?_ ?_
  · refine c_reg ?_; refine run tt_ok 4 hE rfl fun a hE => ?_; rcases bool_or (!decide (y687.2 = y700.2)) with hb1035 | hb1035
    · replace hF := ct hb1035 hF; have hE := hE.tr (t := 95) rfl hb1035; clear hb1035; refine run tt_ok 6 hE rfl fun a hE => ?_; refine c_end ?_; refine xT ?_; cases hF
      exact ⟨G703, (GH.le.refl _), hE.keep ⟨rfl, rfl, rfl, rfl, trivial⟩, hI⟩
    replace hF := cf hb1035 hF; have hE := hE.tr (t := 95) rfl hb1035; clear hb1035; refine run tt_ok 1 hE rfl fun a hE => ?_; refine s_rt hI hE rfl (f_pnil up_28 (h692.mono (hg698.trans hg702)) rfl rfl) rfl fun a hE => ?_
    refine run tt_ok 1 hE rfl fun a hE => ?_; refine s_rt hI hE rfl (f_pnil up_28 h705 rfl rfl) rfl fun a hE => ?_; refine s_rt hI hE rfl (f_bne ub_4 rfl rfl) rfl fun a hE => ?_; refine run tt_ok 1 hE rfl fun a hE => ?_
    refine c_end ?_; refine xT ?_; cases hF; exact ⟨G703, (GH.le.refl _), hE.keep ⟨rfl, rfl, rfl, rfl, trivial⟩, hI⟩
  clear hE hI; rintro a w ⟨G707, hg710, hE, hI⟩; clear hF; have hF := hR711; clear hR711; refine xT ?_; refine c_if (b := m709) hE rfl (fun hb1034 => ?_) (fun hb1034 => ?_)
  · replace hF := ct hb1034 hF; refine c_seq ?_; refine c_reg ?_; refine run tt_ok 1 hE rfl fun a hE => ?_; refine c_end ?_; refine xT ?_; refine c_ret ?_; refine xTr ?_; cases hF
    refine r_ret (v := _) hE rfl ⟨_, _, _, rfl, hI.nil, rfl, rfl⟩
  replace hF := cf hb1034 hF; refine c_skip ?_; refine xT ?_; refine c_seq ?_; refine c_seq ?_; refine c_reg ?_; refine run tt_ok 1 hE rfl fun a hE => ?_
  refine s_rt hI hE rfl (f_pnil up_28 (h692.mono ((hg698.trans hg702).trans hg710)) rfl rfl) rfl fun a hE => ?_; refine c_end ?_; refine xT ?_; refine c_if (b := y687.1.isNone) hE rfl (fun hb1033 => ?_) (fun hb1033 => ?_)
  · replace hF := ct hb1033 hF; refine c_seq ?_; refine c_reg ?_; obtain ⟨y714, hy715, hF⟩ := bd hF; refine s_call0 cl_11 hI hE rfl rfl ((law03_alive.ok k) _ hy715 _ _  hI.pass0 ) rfl ?_; clear hE hI
    rintro a w _ G717 _ ⟨rfl, rfl⟩ hg716 hI hE; refine run tt_ok 1 hE rfl fun a hE => ?_; refine c_end ?_; refine xT ?_; refine c_ret ?_; refine xTr ?_; cases hF; refine r_ret (v := _) hE rfl ⟨_, _, _, rfl, hI.nil, rfl, rfl⟩
  replace hF := cf hb1033 hF; refine c_skip ?_; refine xT ?_; refine c_seq ?_; refine c_seq ?_; refine c_reg ?_; refine run tt_ok 3 hE rfl fun a hE => ?_; refine c_end ?_; refine xT ?_
  obtain ⟨o868, hO869, hK870⟩ := bd hF; clear hF; refine c_cut (fun a' w' => ∃ (s872 : Unit) (G873 : GH), o868 = .go s872 ∧ G707.le G873 ∧ Env a' 149 [] ∧ Inv w0 G0 [] G873 [] w') ?_ ?_; rotate_left
  · clear hE hI hO869; rintro a w ⟨s872, G873, rfl, hg874, hE, hI⟩; have hF := lrk_go hK870; clear hK870; refine xT ?_; refine c_seq ?_; refine c_reg ?_; obtain ⟨y876, hy877, hF⟩ := bd hF
    refine s_call0 cl_11 hI hE rfl rfl ((law03_alive.ok k) _ hy877 _ _  hI.pass0 ) rfl ?_; clear hE hI; rintro a w _ G879 _ ⟨rfl, rfl⟩ hg878 hI hE; refine run tt_ok 1 hE rfl fun a hE => ?_; refine c_end ?_; refine xT ?_
    refine c_ret ?_; cases hF; refine r_ret (v := _) hE rfl ⟨_, _, _, rfl, hI.nil, rfl, rfl⟩
  refine c_block ?_
  refine wp_loop_ghost (fun n' a' w' => ∃ (i882 : Nat) (rest884 : List ByteArray) (s867 : Unit) (G866 : GH), n' = rest884.length ∧ i882 ≤ p0.length ∧ p0.drop i882 = rest884 ∧ forL (law03_LatticeEdges.b0 k y687 y700 p0) i882 rest884 s867 = some o868 ∧ G707.le G866 ∧ Env a' 149 [(107, .int .i64 (i882 : Int)), (0, .slice A1 p0.length c2), (13, .pointer A691), (15, .pointer A704), (106, .int .i64 (p0.length : Int))] ∧ Inv w0 G0 [] G866 [] w') _ ⟨0, _, _, G707, rfl, Nat.zero_le _, rfl, hO869, (GH.le.refl _), hE.keep ⟨rfl, rfl, rfl, rfl, rfl, trivial⟩, hI⟩ ?_
  clear hE hI hO869; rintro m881 a w ⟨i882, rest884, s867, G866, rfl, hi888, hd885, hO869, hg871, hE, hI⟩; rcases rest884 with _ | ⟨x883, rest884⟩
  · obtain rfl := forL_nil hO869; have hlt887 := drop_nil hd885 hi888; clear hd885; refine c_seq ?_; refine c_reg ?_; refine run tt_ok 1 hE rfl fun a hE => ?_; refine c_end ?_; refine xT ?_; refine c_seq ?_
    have hE := hE.tr (t := 108) rfl (decide_eq_false (by omega)); refine c_false hE rfl ?_; refine c_exit ?_; refine xTe ?_; refine xTe ?_; refine xBh ?_; refine xT ?_; exact ⟨_, G866, rfl, hg871, hE.keep trivial, hI⟩
  obtain ⟨stp880, hF, hO869⟩ := forL_step hO869; obtain ⟨hx886, hd885, hlt887⟩ := drop_cons hd885; unfold law03_LatticeEdges.b0 at hF; refine c_seq ?_; refine c_reg ?_; refine run tt_ok 1 hE rfl fun a hE => ?_
  refine c_end ?_; refine xT ?_; refine c_seq ?_; have hE := hE.tr (t := 108) rfl (decide_eq_true (by omega)); refine c_true hE rfl ?_; refine c_skip ?_; refine xT ?_; refine c_seq ?_; refine c_block ?_; refine c_seq ?_
  refine c_reg ?_; refine run tt_ok 2 hE rfl fun a hE => ?_; refine c_end ?_; refine xT ?_; refine c_seq ?_; refine c_reg ?_; refine run tt_ok 3 hE rfl fun a hE => ?_; refine c_end ?_; refine xT ?_
  obtain ⟨o956, hO957, hK958⟩ := bd hF; clear hF
  refine c_cut (fun a' w' => ∃ (s960 : Unit) (G961 : GH), o956 = .go s960 ∧ G866.le G961 ∧ Env a' 149 [(0, .slice A1 p0.length c2), (13, .pointer A691), (15, .pointer A704), (106, .int .i64 (p0.length : Int)), (107, .int .i64 (i882 : Int))] ∧ Inv w0 G0 [] G961 [] w') ?_ ?_
  rotate_left
  · clear hE hI hO957; rintro a w ⟨s960, G961, rfl, hg962, hE, hI⟩; have hF := lrk_go hK958; clear hK958; refine xB ?_; refine xT ?_; refine c_reg ?_; refine run tt_ok 2 hE rfl fun a hE => ?_; refine c_end ?_; refine xT ?_
    cases hF; have hE := hE.setI (t := 107) rfl (w64_succ hlt887 (len_le h3))
    exact ⟨rest884.length, Nat.lt_succ_self _, i882 + 1, rest884, _, G961, rfl, hlt887, hd885, hO869, (hg871.trans hg962), hE.keep ⟨rfl, rfl, rfl, rfl, rfl, trivial⟩, hI⟩
  refine c_block ?_
  refine wp_loop_ghost (fun n' a' w' => ∃ (i965 : Nat) (rest967 : List ByteArray) (s955 : Unit) (G954 : GH), n' = rest967.length ∧ i965 ≤ p0.length ∧ p0.drop i965 = rest967 ∧ forL (law03_LatticeEdges.b1 k y687 i882 y700) i965 rest967 s955 = some o956 ∧ G866.le G954 ∧ Env a' 149 [(112, .int .i64 (i965 : Int)), (0, .slice A1 p0.length c2), (13, .pointer A691), (15, .pointer A704), (17, .int .i64 (i882 : Int)), (106, .int .i64 (p0.length : Int)), (107, .int .i64 (i882 : Int)), (111, .int .i64 (p0.length : Int))] ∧ Inv w0 G0 [] G954 [] w') _ ⟨0, _, _, G866, rfl, Nat.zero_le _, rfl, hO957, (GH.le.refl _), hE.keep ⟨rfl, rfl, rfl, rfl, rfl, rfl, rfl, rfl, trivial⟩, hI⟩ ?_
  clear hE hI hO957; rintro m964 a w ⟨i965, rest967, s955, G954, rfl, hi971, hd968, hO957, hg959, hE, hI⟩; rcases rest967 with _ | ⟨x966, rest967⟩
  · obtain rfl := forL_nil hO957; have hlt970 := drop_nil hd968 hi971; clear hd968; refine c_seq ?_; refine c_reg ?_; refine run tt_ok 1 hE rfl fun a hE => ?_; refine c_end ?_; refine xT ?_; refine c_seq ?_
    have hE := hE.tr (t := 113) rfl (decide_eq_false (by omega)); refine c_false hE rfl ?_; refine c_exit ?_; refine xTe ?_; refine xTe ?_; refine xBh ?_; refine xT ?_
    exact ⟨_, G954, rfl, hg959, hE.keep ⟨rfl, rfl, rfl, rfl, rfl, trivial⟩, hI⟩
  obtain ⟨stp963, hF, hO957⟩ := forL_step hO957; obtain ⟨hx969, hd968, hlt970⟩ := drop_cons hd968; unfold law03_LatticeEdges.b1 at hF; refine c_seq ?_; refine c_reg ?_; refine run tt_ok 1 hE rfl fun a hE => ?_
  refine c_end ?_; refine xT ?_; refine c_seq ?_; have hE := hE.tr (t := 113) rfl (decide_eq_true (by omega)); refine c_true hE rfl ?_; refine c_skip ?_; refine xT ?_; refine c_seq ?_; refine c_block ?_; refine c_seq ?_
  refine c_reg ?_; refine run tt_ok 2 hE rfl fun a hE => ?_; refine c_end ?_; refine xT ?_; refine c_seq ?_; obtain ⟨m1003, hF, hR1005⟩ := bd hF
  refine c_cut (fun a' w' => ∃ (G1001 : GH), G954.le G1001 ∧ Env a' 149 [(0, .slice A1 p0.length c2), (13, .pointer A691), (15, .pointer A704), (17, .int .i64 (i882 : Int)), (106, .int .i64 (p0.length : Int)), (107, .int .i64 (i882 : Int)), (111, .int .i64 (p0.length : Int)), (112, .int .i64 (i965 : Int)), (145, .bool m1003)] ∧ Inv w0 G0 [] G1001 [] w') ?_ ?_
  rotate_left
  · clear hE hI; rintro a w ⟨G1001, hg1004, hE, hI⟩; clear hF; have hF := hR1005; clear hR1005; refine xT ?_; refine c_if (b := m1003) hE rfl (fun hb1006 => ?_) (fun hb1006 => ?_); rotate_left
    · replace hF := cf hb1006 hF; refine c_skip ?_; refine xB ?_; refine xT ?_; refine c_reg ?_; refine run tt_ok 2 hE rfl fun a hE => ?_; refine c_end ?_; refine xT ?_; cases hF
      have hE := hE.setI (t := 112) rfl (w64_succ hlt970 (len_le h3))
      exact ⟨rest967.length, Nat.lt_succ_self _, i965 + 1, rest967, _, G1001, rfl, hlt970, hd968, hO957, (hg959.trans hg1004), hE.keep ⟨rfl, rfl, rfl, rfl, rfl, rfl, rfl, rfl, trivial⟩, hI⟩
    replace hF := ct hb1006 hF; refine c_seq ?_; refine c_reg ?_; refine run tt_ok 1 hE rfl fun a hE => ?_; refine c_end ?_; refine xT ?_; refine c_ret ?_; refine xBr ?_; refine xTr ?_; refine xTr ?_; refine xBr ?_
    refine xTr ?_; refine xBr ?_; refine xTr ?_; refine xTr ?_; refine xBr ?_; refine xTr ?_; refine xTr ?_; cases hF; obtain rfl := nxt_ret hO957; have hF := lrk_ret hK958
    cases hF; obtain rfl := nxt_ret hO869; have hF := lrk_ret hK870; cases hF; refine r_ret (v := _) hE rfl ⟨_, _, _, rfl, hI.nil, rfl, rfl⟩
  refine c_reg ?_; refine run tt_ok 3 hE rfl fun a hE => ?_; obtain ⟨y1007, hy1008, hF⟩ := bd hF
  refine s_call0 cl_13 hI hE rfl rfl ((lattice_Lattice_Leq.ok k) _ _ _ _ hy1008 _ _ _ hI.pass0 (h692.mono ((((hg698.trans hg702).trans hg710).trans hg871).trans hg959))) rfl ?_; clear hE hI
  rintro a w _ G1010 _ ⟨rfl, rfl⟩ hg1009 hI hE; refine run tt_ok 3 hE rfl fun a hE => ?_; obtain ⟨y1011, hy1012, hF⟩ := bd hF
  refine s_call0 cl_13 hI hE rfl rfl ((lattice_Lattice_Leq.ok k) _ _ _ _ hy1012 _ _ _ hI.pass0 (h705.mono (((hg710.trans hg871).trans hg959).trans hg1009))) rfl ?_; clear hE hI; rintro a w _ G1014 _ ⟨rfl, rfl⟩ hg1013 hI hE
  refine s_rt hI hE rfl (f_bne ub_4 rfl rfl) rfl fun a hE => ?_; refine run tt_ok 1 hE rfl fun a hE => ?_; rcases bool_or (!(y1007 == y1011)) with hb1015 | hb1015
  · replace hF := ct hb1015 hF; have hE := hE.tr (t := 124) rfl hb1015; clear hb1015; refine run tt_ok 21 hE rfl fun a hE => ?_; refine c_end ?_; refine xT ?_; cases hF
    exact ⟨G1014, (hg1009.trans hg1013), hE.keep ⟨rfl, rfl, rfl, rfl, rfl, rfl, rfl, rfl, rfl, trivial⟩, hI⟩
  replace hF := cf hb1015 hF; have hE := hE.tr (t := 124) rfl hb1015; clear hb1015; refine run tt_ok 3 hE rfl fun a hE => ?_; obtain ⟨y1016, hy1017, hF⟩ := bd hF
  refine s_call0 cl_14 hI hE rfl rfl ((lattice_Lattice_Join.ok k) _ _ _ _ hy1017 _ _ _ hI.pass0 (h692.mono ((((((hg698.trans hg702).trans hg710).trans hg871).trans hg959).trans hg1009).trans hg1013))) rfl ?_; clear hE hI
  rintro a w _ G1019 _ ⟨rfl, rfl⟩ hg1018 hI hE; refine run tt_ok 3 hE rfl fun a hE => ?_; obtain ⟨y1020, hy1021, hF⟩ := bd hF
  refine s_call0 cl_14 hI hE rfl rfl ((lattice_Lattice_Join.ok k) _ _ _ _ hy1021 _ _ _ hI.pass0 (h705.mono (((((hg710.trans hg871).trans hg959).trans hg1009).trans hg1013).trans hg1018))) rfl ?_; clear hE hI
  rintro a w _ G1023 _ ⟨rfl, rfl⟩ hg1022 hI hE; refine run tt_ok 3 hE rfl fun a hE => ?_; rcases bool_or (!decide (y1016 = y1020)) with hb1024 | hb1024
  · replace hF := ct hb1024 hF; have hE := hE.tr (t := 135) rfl hb1024; clear hb1024; refine run tt_ok 10 hE rfl fun a hE => ?_; refine c_end ?_; refine xT ?_; cases hF
    exact ⟨G1023, (((hg1009.trans hg1013).trans hg1018).trans hg1022), hE.keep ⟨rfl, rfl, rfl, rfl, rfl, rfl, rfl, rfl, rfl, trivial⟩, hI⟩
  replace hF := cf hb1024 hF; have hE := hE.tr (t := 135) rfl hb1024; clear hb1024; refine run tt_ok 3 hE rfl fun a hE => ?_; obtain ⟨y1025, hy1026, hF⟩ := bd hF
  refine s_call0 cl_15 hI hE rfl rfl ((lattice_Lattice_Meet.ok k) _ _ _ _ hy1026 _ _ _ hI.pass0 (h692.mono ((((((((hg698.trans hg702).trans hg710).trans hg871).trans hg959).trans hg1009).trans hg1013).trans hg1018).trans hg1022))) rfl ?_; clear hE hI
  rintro a w _ G1028 _ ⟨rfl, rfl⟩ hg1027 hI hE; refine run tt_ok 3 hE rfl fun a hE => ?_; obtain ⟨y1029, hy1030, hF⟩ := bd hF
  refine s_call0 cl_15 hI hE rfl rfl ((lattice_Lattice_Meet.ok k) _ _ _ _ hy1030 _ _ _ hI.pass0 (h705.mono (((((((hg710.trans hg871).trans hg959).trans hg1009).trans hg1013).trans hg1018).trans hg1022).trans hg1027))) rfl ?_; clear hE hI
  rintro a w _ G1032 _ ⟨rfl, rfl⟩ hg1031 hI hE; refine run tt_ok 2 hE rfl fun a hE => ?_; refine c_end ?_; refine xT ?_; cases hF
  exact ⟨G1032, (((((hg1009.trans hg1013).trans hg1018).trans hg1022).trans hg1027).trans hg1031), hE.keep ⟨rfl, rfl, rfl, rfl, rfl, rfl, rfl, rfl, rfl, trivial⟩, hI⟩

theorem cl_16 : Callable Try.prog 16 := ⟨_, Try.func16, by kernel_rfl, by kernel_rfl⟩

def lattice_Lattice_Bottom.C (s : (Option Tlattice_Lattice) → Option Int) : Prop := ∀ (p0 : Option Tlattice_Lattice) (r : Int), s p0 = some r → ∀ (w0 : World) (G0 : GH) (A1 : Option Addr), Inv w0 G0 [] G0 [] w0 → (Pt G0 A1 78 Tlattice_Lattice.d p0) → Calls Try.prog 16 #[.pointer A1] w0 (Ret w0 G0 [] fun G' L' v => L' = [] ∧ v = .int .i64 r)

theorem lattice_Lattice_Bottom.ok (k : Nat) : lattice_Lattice_Bottom.C (lattice_Lattice_Bottom k) := by
  intro p0 r hF w0 G0 A1 hI h2
  unfold lattice_Lattice_Bottom at hF
  refine calls_of_wp Try.func16 rfl ?_
  have hE : Env _ 26 [(0, .pointer A1)] := Env.start ⟨[.pointer A1]⟩ 25
  refine c_seq ?_; refine c_reg ?_; refine run tt_ok 1 hE rfl fun a hE => ?_; refine c_end ?_; refine xT ?_; refine c_seq ?_; refine c_seq ?_; refine c_reg ?_; refine run tt_ok 1 hE rfl fun a hE => ?_
  obtain ⟨y4, hy5, hF⟩ := bd hF; refine s_call0 cl_46 hI hE rfl rfl ((lattice_Lattice_is.ok k) _ _ _ hy5 _ _ _ hI.pass0 h2) rfl ?_; clear hE hI; rintro a w _ G7 _ ⟨rfl, rfl⟩ hg6 hI hE
  refine run tt_ok 1 hE rfl fun a hE => ?_; refine c_end ?_; refine xT ?_; refine c_if (b := !y4) hE rfl (fun hb68 => ?_) (fun hb68 => ?_)
  · replace hF := ct hb68 hF; refine c_seq ?_; refine c_reg ?_; refine run tt_ok 1 hE rfl fun a hE => ?_; refine c_end ?_; refine xT ?_; refine c_ret ?_; refine xTr ?_; cases hF
    refine r_ret (v := _) hE rfl ⟨_, _, _, rfl, hI.nil, rfl, rfl⟩
  replace hF := cf hb68 hF; refine c_skip ?_; refine xT ?_; refine c_seq ?_; refine c_reg ?_; refine run tt_ok 1 hE rfl fun a hE => ?_; refine c_end ?_; refine xT ?_; refine c_seq ?_; refine c_seq ?_; refine c_reg ?_
  refine run tt_ok 1 hE rfl fun a hE => ?_; rcases ((h2.mono hg6)).cases with ⟨hp14, rfl⟩ | ⟨y12, b13, cs, hp14, rfl, hR15, hA16⟩
  · cases op_n hp14 hF
  replace hF := op_s hp14 hF; obtain ⟨A17, c18, A20, A22, c23, A25, c26, rfl, h19, h21, h24, h27⟩ := Tlattice_Lattice.inv.1 hR15; refine run tt_ok 2 hE rfl fun a hE => ?_
  refine s_rt hI hE rfl (f_loadG tt_ok hA16 0 rfl rfl rfl rfl) rfl fun a hE => ?_; refine run tt_ok 2 hE rfl fun a hE => ?_; refine c_end ?_; refine xT ?_; obtain ⟨o48, hO49, hK50⟩ := bd hF; clear hF
  refine c_cut (fun a' w' => ∃ (s52 : Int) (G53 : GH), o48 = .go s52 ∧ G7.le G53 ∧ Env a' 26 [(3, .int .i64 s52)] ∧ Inv w0 G0 [] G53 [] w') ?_ ?_; rotate_left
  · clear hE hI hO49; rintro a w ⟨s52, G53, rfl, hg55, hE, hI⟩; have hF := lrk_go hK50; clear hK50; refine xT ?_; refine c_seq ?_; refine c_reg ?_; refine run tt_ok 2 hE rfl fun a hE => ?_; refine c_end ?_; refine xT ?_
    refine c_ret ?_; cases hF; refine r_ret (v := _) hE rfl ⟨_, _, _, rfl, hI.nil, rfl, rfl⟩
  refine c_block ?_
  refine wp_loop_ghost (fun n' a' w' => ∃ (i58 : Nat) (rest60 : List ByteArray) (s47 : Int) (G45 : GH), n' = rest60.length ∧ i58 ≤ y12.names_.length ∧ y12.names_.drop i58 = rest60 ∧ forL (lattice_Lattice_Bottom.b0 k y12) i58 rest60 s47 = some o48 ∧ G7.le G45 ∧ Env a' 26 [(13, .int .i64 (i58 : Int)), (0, .pointer (some ⟨b13, 0, none⟩)), (3, .int .i64 s47), (12, .int .i64 (y12.names_.length : Int))] ∧ Inv w0 G0 [] G45 [] w') _ ⟨0, _, _, G7, rfl, Nat.zero_le _, rfl, hO49, (GH.le.refl _), hE.keep ⟨rfl, rfl, rfl, rfl, trivial⟩, hI⟩ ?_
  clear hE hI hO49; rintro m57 a w ⟨i58, rest60, s47, G45, rfl, hi64, hd61, hO49, hg51, hE, hI⟩; rcases rest60 with _ | ⟨x59, rest60⟩
  · obtain rfl := forL_nil hO49; have hlt63 := drop_nil hd61 hi64; clear hd61; refine c_seq ?_; refine c_reg ?_; refine run tt_ok 1 hE rfl fun a hE => ?_; refine c_end ?_; refine xT ?_; refine c_seq ?_
    have hE := hE.tr (t := 14) rfl (decide_eq_false (by omega)); refine c_false hE rfl ?_; refine c_exit ?_; refine xTe ?_; refine xTe ?_; refine xBh ?_; refine xT ?_; exact ⟨_, G45, rfl, hg51, hE.keep ⟨rfl, trivial⟩, hI⟩
  obtain ⟨stp56, hF, hO49⟩ := forL_step hO49; obtain ⟨hx62, hd61, hlt63⟩ := drop_cons hd61; unfold lattice_Lattice_Bottom.b0 at hF; refine c_seq ?_; refine c_reg ?_; refine run tt_ok 1 hE rfl fun a hE => ?_; refine c_end ?_
  refine xT ?_; refine c_seq ?_; have hE := hE.tr (t := 14) rfl (decide_eq_true (by omega)); refine c_true hE rfl ?_; refine c_skip ?_; refine xT ?_; refine c_seq ?_; refine c_block ?_; refine c_seq ?_; refine c_reg ?_
  refine run tt_ok 2 hE rfl fun a hE => ?_; refine c_end ?_; refine xT ?_; refine c_reg ?_; refine run tt_ok 5 hE rfl fun a hE => ?_; obtain ⟨_, hb66, hF⟩ := bd hF
  refine s_rt hI hE rfl (f_aidx tt_ok ua_76 rfl rfl rfl rfl hb66) rfl fun a hE => ?_; obtain ⟨_, hb67, hF⟩ := bd hF; refine s_rt hI hE rfl (f_aidx tt_ok ua_75 rfl rfl rfl rfl hb67) rfl fun a hE => ?_
  refine s_rt hI hE rfl (f_loadG (off := 260 + s47.toNat * 16 + (i58 : Int).toNat * 1) tt_ok (hA16.mono hg51) rfl (Nat.zero_add _).symm rfl (ar_ld2 (pre := ([.slice A17 y12.names_.length c18, .map A20, .slice A22 y12.up_.length c23, .slice A25 y12.down_.length c26] ++ (arCells .i64 256 y12.join_ ++ []))) rfl (by simp [arCells]) (ar_ij hb66 hb67))) rfl fun a hE => ?_
  refine run tt_ok 1 hE rfl fun a hE => ?_; refine c_end ?_; refine xB ?_; refine xT ?_; refine c_reg ?_; refine run tt_ok 2 hE rfl fun a hE => ?_; refine c_end ?_; refine xT ?_; cases hF
  have hE := hE.setI (t := 13) rfl (w64_succ hlt63 (len_le h19)); exact ⟨rest60.length, Nat.lt_succ_self _, i58 + 1, rest60, _, G45, rfl, hlt63, hd61, hO49, hg51, hE.keep ⟨rfl, rfl, rfl, rfl, trivial⟩, hI⟩

theorem cl_17 : Callable Try.prog 17 := ⟨_, Try.func17, by kernel_rfl, by kernel_rfl⟩

def lattice_Lattice_Top.C (s : (Option Tlattice_Lattice) → Option Int) : Prop := ∀ (p0 : Option Tlattice_Lattice) (r : Int), s p0 = some r → ∀ (w0 : World) (G0 : GH) (A1 : Option Addr), Inv w0 G0 [] G0 [] w0 → (Pt G0 A1 78 Tlattice_Lattice.d p0) → Calls Try.prog 17 #[.pointer A1] w0 (Ret w0 G0 [] fun G' L' v => L' = [] ∧ v = .int .i64 r)

theorem lattice_Lattice_Top.ok (k : Nat) : lattice_Lattice_Top.C (lattice_Lattice_Top k) := by
  intro p0 r hF w0 G0 A1 hI h2
  unfold lattice_Lattice_Top at hF
  refine calls_of_wp Try.func17 rfl ?_
  have hE : Env _ 26 [(0, .pointer A1)] := Env.start ⟨[.pointer A1]⟩ 25
  refine c_seq ?_; refine c_reg ?_; refine run tt_ok 1 hE rfl fun a hE => ?_; refine c_end ?_; refine xT ?_; refine c_seq ?_; refine c_seq ?_; refine c_reg ?_; refine run tt_ok 1 hE rfl fun a hE => ?_
  obtain ⟨y4, hy5, hF⟩ := bd hF; refine s_call0 cl_46 hI hE rfl rfl ((lattice_Lattice_is.ok k) _ _ _ hy5 _ _ _ hI.pass0 h2) rfl ?_; clear hE hI; rintro a w _ G7 _ ⟨rfl, rfl⟩ hg6 hI hE
  refine run tt_ok 1 hE rfl fun a hE => ?_; refine c_end ?_; refine xT ?_; refine c_if (b := !y4) hE rfl (fun hb68 => ?_) (fun hb68 => ?_)
  · replace hF := ct hb68 hF; refine c_seq ?_; refine c_reg ?_; refine run tt_ok 1 hE rfl fun a hE => ?_; refine c_end ?_; refine xT ?_; refine c_ret ?_; refine xTr ?_; cases hF
    refine r_ret (v := _) hE rfl ⟨_, _, _, rfl, hI.nil, rfl, rfl⟩
  replace hF := cf hb68 hF; refine c_skip ?_; refine xT ?_; refine c_seq ?_; refine c_reg ?_; refine run tt_ok 1 hE rfl fun a hE => ?_; refine c_end ?_; refine xT ?_; refine c_seq ?_; refine c_seq ?_; refine c_reg ?_
  refine run tt_ok 1 hE rfl fun a hE => ?_; rcases ((h2.mono hg6)).cases with ⟨hp14, rfl⟩ | ⟨y12, b13, cs, hp14, rfl, hR15, hA16⟩
  · cases op_n hp14 hF
  replace hF := op_s hp14 hF; obtain ⟨A17, c18, A20, A22, c23, A25, c26, rfl, h19, h21, h24, h27⟩ := Tlattice_Lattice.inv.1 hR15; refine run tt_ok 2 hE rfl fun a hE => ?_
  refine s_rt hI hE rfl (f_loadG tt_ok hA16 0 rfl rfl rfl rfl) rfl fun a hE => ?_; refine run tt_ok 2 hE rfl fun a hE => ?_; refine c_end ?_; refine xT ?_; obtain ⟨o48, hO49, hK50⟩ := bd hF; clear hF
  refine c_cut (fun a' w' => ∃ (s52 : Int) (G53 : GH), o48 = .go s52 ∧ G7.le G53 ∧ Env a' 26 [(3, .int .i64 s52)] ∧ Inv w0 G0 [] G53 [] w') ?_ ?_; rotate_left
  · clear hE hI hO49; rintro a w ⟨s52, G53, rfl, hg55, hE, hI⟩; have hF := lrk_go hK50; clear hK50; refine xT ?_; refine c_seq ?_; refine c_reg ?_; refine run tt_ok 2 hE rfl fun a hE => ?_; refine c_end ?_; refine xT ?_
    refine c_ret ?_; cases hF; refine r_ret (v := _) hE rfl ⟨_, _, _, rfl, hI.nil, rfl, rfl⟩
  refine c_block ?_
  refine wp_loop_ghost (fun n' a' w' => ∃ (i58 : Nat) (rest60 : List ByteArray) (s47 : Int) (G45 : GH), n' = rest60.length ∧ i58 ≤ y12.names_.length ∧ y12.names_.drop i58 = rest60 ∧ forL (lattice_Lattice_Top.b0 k y12) i58 rest60 s47 = some o48 ∧ G7.le G45 ∧ Env a' 26 [(13, .int .i64 (i58 : Int)), (0, .pointer (some ⟨b13, 0, none⟩)), (3, .int .i64 s47), (12, .int .i64 (y12.names_.length : Int))] ∧ Inv w0 G0 [] G45 [] w') _ ⟨0, _, _, G7, rfl, Nat.zero_le _, rfl, hO49, (GH.le.refl _), hE.keep ⟨rfl, rfl, rfl, rfl, trivial⟩, hI⟩ ?_
  clear hE hI hO49; rintro m57 a w ⟨i58, rest60, s47, G45, rfl, hi64, hd61, hO49, hg51, hE, hI⟩; rcases rest60 with _ | ⟨x59, rest60⟩
  · obtain rfl := forL_nil hO49; have hlt63 := drop_nil hd61 hi64; clear hd61; refine c_seq ?_; refine c_reg ?_; refine run tt_ok 1 hE rfl fun a hE => ?_; refine c_end ?_; refine xT ?_; refine c_seq ?_
    have hE := hE.tr (t := 14) rfl (decide_eq_false (by omega)); refine c_false hE rfl ?_; refine c_exit ?_; refine xTe ?_; refine xTe ?_; refine xBh ?_; refine xT ?_; exact ⟨_, G45, rfl, hg51, hE.keep ⟨rfl, trivial⟩, hI⟩
  obtain ⟨stp56, hF, hO49⟩ := forL_step hO49; obtain ⟨hx62, hd61, hlt63⟩ := drop_cons hd61; unfold lattice_Lattice_Top.b0 at hF; refine c_seq ?_; refine c_reg ?_; refine run tt_ok 1 hE rfl fun a hE => ?_; refine c_end ?_
  refine xT ?_; refine c_seq ?_; have hE := hE.tr (t := 14) rfl (decide_eq_true (by omega)); refine c_true hE rfl ?_; refine c_skip ?_; refine xT ?_; refine c_seq ?_; refine c_block ?_; refine c_seq ?_; refine c_reg ?_
  refine run tt_ok 2 hE rfl fun a hE => ?_; refine c_end ?_; refine xT ?_; refine c_reg ?_; refine run tt_ok 5 hE rfl fun a hE => ?_; obtain ⟨_, hb66, hF⟩ := bd hF
  refine s_rt hI hE rfl (f_aidx tt_ok ua_76 rfl rfl rfl rfl hb66) rfl fun a hE => ?_; obtain ⟨_, hb67, hF⟩ := bd hF; refine s_rt hI hE rfl (f_aidx tt_ok ua_75 rfl rfl rfl rfl hb67) rfl fun a hE => ?_
  refine s_rt hI hE rfl (f_loadG (off := 4 + s47.toNat * 16 + (i58 : Int).toNat * 1) tt_ok (hA16.mono hg51) rfl (Nat.zero_add _).symm rfl (ar_ld2 (pre := [.slice A17 y12.names_.length c18, .map A20, .slice A22 y12.up_.length c23, .slice A25 y12.down_.length c26]) rfl (by simp [arCells]) (ar_ij hb66 hb67))) rfl fun a hE => ?_
  refine run tt_ok 1 hE rfl fun a hE => ?_; refine c_end ?_; refine xB ?_; refine xT ?_; refine c_reg ?_; refine run tt_ok 2 hE rfl fun a hE => ?_; refine c_end ?_; refine xT ?_; cases hF
  have hE := hE.setI (t := 13) rfl (w64_succ hlt63 (len_le h19)); exact ⟨rest60.length, Nat.lt_succ_self _, i58 + 1, rest60, _, G45, rfl, hlt63, hd61, hO49, hg51, hE.keep ⟨rfl, rfl, rfl, rfl, trivial⟩, hI⟩
end Go.Proofs.Ytliaopbgkcdibaa
