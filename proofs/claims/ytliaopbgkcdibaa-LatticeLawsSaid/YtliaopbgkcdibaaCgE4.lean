/- The contracts: what the machine does at a call is what the plain function says. Written by mk.py. -/
import Derived.Test.YtliaopbgkcdibaaCgE0
import Derived.Test.YtliaopbgkcdibaaCgE2
import Derived.Test.YtliaopbgkcdibaaCgE3
set_option linter.unusedVariables false
set_option linter.unusedSimpArgs false
set_option maxRecDepth 100000
namespace Go.Proofs.Ytliaopbgkcdibaa
open Go.RowKit
theorem cl_4 : Callable Try.prog 4 := ⟨_, Try.func4, by kernel_rfl, by kernel_rfl⟩

def law03_LatticeLaws.C (s : (List ByteArray) → (List TPair) → Option Bool) : Prop := ∀ (p0 : List ByteArray) (p1 : List TPair) (r : Bool), s p0 p1 = some r → ∀ (w0 : World) (G0 : GH) (A1 : Option Addr) (c2 : Nat) (A4 : Option Addr) (c5 : Nat), Inv w0 G0 [] G0 [] w0 → (Sl G0 A1 c2 1 (p0.map D.str)) → (Sl G0 A4 c5 2 (p1.map TPair.d)) → Calls Try.prog 4 #[.slice A1 p0.length c2, .slice A4 p1.length c5] w0 (Ret w0 G0 [] fun G' L' v => L' = [] ∧ v = .bool r)

theorem law03_LatticeLaws.ok (k : Nat) : law03_LatticeLaws.C (law03_LatticeLaws k) := by
  intro p0 p1 r hF w0 G0 A1 c2 A4 c5 hI h3 h6
  unfold law03_LatticeLaws at hF
  refine calls_of_wp Try.func4 rfl ?_
  have hE : Env _ 184 [(0, .slice A1 p0.length c2), (1, .slice A4 p1.length c5)] := Env.start ⟨[.slice A1 p0.length c2, .slice A4 p1.length c5]⟩ 182
  refine c_seq ?_; refine c_reg ?_; refine run tt_ok 1 hE rfl fun a hE => ?_; refine c_end ?_; refine xT ?_; refine c_seq ?_; refine c_seq ?_; refine c_reg ?_; refine run tt_ok 2 hE rfl fun a hE => ?_
  obtain ⟨y8, hy9, hF⟩ := bd hF; refine s_call0 cl_10 hI hE rfl rfl ((law03_Few.ok k) _ _ _ hy9 _ _ _ _ _ _ hI.pass0 h3 h6) rfl ?_; clear hE hI; rintro a w _ G11 _ ⟨rfl, rfl⟩ hg10 hI hE
  refine run tt_ok 1 hE rfl fun a hE => ?_; refine c_end ?_; refine xT ?_; refine c_if (b := !y8) hE rfl (fun hb1441 => ?_) (fun hb1441 => ?_)
  · replace hF := ct hb1441 hF; refine c_seq ?_; refine c_reg ?_; obtain ⟨y13, hy14, hF⟩ := bd hF; refine s_call0 cl_11 hI hE rfl rfl ((law03_alive.ok k) _ hy14 _ _  hI.pass0 ) rfl ?_; clear hE hI
    rintro a w _ G16 _ ⟨rfl, rfl⟩ hg15 hI hE; refine run tt_ok 1 hE rfl fun a hE => ?_; refine c_end ?_; refine xT ?_; refine c_ret ?_; refine xTr ?_; cases hF; refine r_ret (v := _) hE rfl ⟨_, _, _, rfl, hI.nil, rfl, rfl⟩
  replace hF := cf hb1441 hF; refine c_skip ?_; refine xT ?_; refine c_seq ?_; refine c_reg ?_; refine run tt_ok 2 hE rfl fun a hE => ?_; obtain ⟨y21, hy22, hF⟩ := bd hF
  refine s_call0 cl_12 hI hE rfl rfl ((lattice_New.ok k) _ _ _ hy22 _ _ _ _ _ _ hI.pass0 (h3.mono hg10) (h6.mono hg10)) rfl ?_; clear hE hI; rintro a w _ G24 _ ⟨rfl, A25, rfl, h26⟩ hg23 hI hE
  refine run tt_ok 5 hE rfl fun a hE => ?_; refine c_end ?_; refine xT ?_; refine c_seq ?_; refine c_seq ?_; refine c_reg ?_; refine run tt_ok 2 hE rfl fun a hE => ?_; refine c_end ?_; refine xT ?_
  refine c_if (b := !decide (y21.2 = (0 : Int))) hE rfl (fun hb1440 => ?_) (fun hb1440 => ?_)
  · replace hF := ct hb1440 hF; refine c_seq ?_; obtain ⟨m35, hF, hR37⟩ := bd hF; refine c_cut (fun a' w' => ∃ (G33 : GH), G24.le G33 ∧ Env a' 184 [(4, .bool m35)] ∧ Inv w0 G0 [] G33 [] w') ?_ ?_; rotate_left
    · clear hE hI; rintro a w ⟨G33, hg36, hE, hI⟩; clear hF; have hF := hR37; clear hR37; refine xT ?_; refine c_ret ?_; refine xTr ?_; cases hF; refine r_ret (v := _) hE rfl ⟨_, _, _, rfl, hI.nil, rfl, rfl⟩
    refine c_reg ?_; refine run tt_ok 1 hE rfl fun a hE => ?_; refine s_rt hI hE rfl (f_pnil up_28 h26 rfl rfl) rfl fun a hE => ?_; refine run tt_ok 1 hE rfl fun a hE => ?_; rcases bool_or y21.1.isNone with hb38 | hb38
    rotate_left
    · replace hF := cf hb38 hF; have hE := hE.tr (t := 28) rfl hb38; clear hb38; refine run tt_ok 3 hE rfl fun a hE => ?_; refine c_end ?_; refine xT ?_; cases hF; exact ⟨G24, (GH.le.refl _), hE.keep ⟨rfl, trivial⟩, hI⟩
    replace hF := ct hb38 hF; have hE := hE.tr (t := 28) rfl hb38; clear hb38; obtain ⟨y39, hy40, hF⟩ := bd hF; refine s_call0 cl_11 hI hE rfl rfl ((law03_alive.ok k) _ hy40 _ _  hI.pass0 ) rfl ?_; clear hE hI
    rintro a w _ G42 _ ⟨rfl, rfl⟩ hg41 hI hE; refine run tt_ok 2 hE rfl fun a hE => ?_; refine c_end ?_; refine xT ?_; cases hF; exact ⟨G42, hg41, hE.keep ⟨rfl, trivial⟩, hI⟩
  replace hF := cf hb1440 hF; refine c_skip ?_; refine xT ?_; refine c_seq ?_; refine c_reg ?_; refine run tt_ok 3 hE rfl fun a hE => ?_; refine c_end ?_; refine xT ?_; refine c_seq ?_; refine c_seq ?_; refine c_reg ?_
  refine run tt_ok 1 hE rfl fun a hE => ?_; refine c_end ?_; refine xT ?_; obtain ⟨o734, hO735, hK736⟩ := bd hF; clear hF
  refine c_cut (fun a' w' => ∃ (s738 : Unit) (G739 : GH), o734 = .go s738 ∧ G24.le G739 ∧ Env a' 184 [] ∧ Inv w0 G0 [] G739 [] w') ?_ ?_; rotate_left
  · clear hE hI hO735; rintro a w ⟨s738, G739, rfl, hg740, hE, hI⟩; have hF := lrk_go hK736; clear hK736; refine xT ?_; refine c_seq ?_; refine c_reg ?_; obtain ⟨y742, hy743, hF⟩ := bd hF
    refine s_call0 cl_11 hI hE rfl rfl ((law03_alive.ok k) _ hy743 _ _  hI.pass0 ) rfl ?_; clear hE hI; rintro a w _ G745 _ ⟨rfl, rfl⟩ hg744 hI hE; refine run tt_ok 1 hE rfl fun a hE => ?_; refine c_end ?_; refine xT ?_
    refine c_ret ?_; cases hF; refine r_ret (v := _) hE rfl ⟨_, _, _, rfl, hI.nil, rfl, rfl⟩
  refine c_block ?_
  refine wp_loop_ghost (fun n' a' w' => ∃ (i748 : Nat) (rest750 : List ByteArray) (s733 : Unit) (G732 : GH), n' = rest750.length ∧ i748 ≤ p0.length ∧ p0.drop i748 = rest750 ∧ forL (law03_LatticeLaws.b0 k y21 p0) i748 rest750 s733 = some o734 ∧ G24.le G732 ∧ Env a' 184 [(8, .int .i64 (i748 : Int)), (5, .pointer A25), (7, .int .i64 (p0.length : Int))] ∧ Inv w0 G0 [] G732 [] w') _ ⟨0, _, _, G24, rfl, Nat.zero_le _, rfl, hO735, (GH.le.refl _), hE.keep ⟨rfl, rfl, rfl, trivial⟩, hI⟩ ?_
  clear hE hI hO735; rintro m747 a w ⟨i748, rest750, s733, G732, rfl, hi754, hd751, hO735, hg737, hE, hI⟩; rcases rest750 with _ | ⟨x749, rest750⟩
  · obtain rfl := forL_nil hO735; have hlt753 := drop_nil hd751 hi754; clear hd751; refine c_seq ?_; refine c_seq ?_; refine c_reg ?_; refine run tt_ok 3 hE rfl fun a hE => ?_; refine c_end ?_; refine xT ?_
    have hE := hE.tr (t := 35) rfl (decide_eq_false (by omega)); refine c_false hE rfl ?_; refine c_exit ?_; refine xTe ?_; refine xTe ?_; refine xBh ?_; refine xT ?_; exact ⟨_, G732, rfl, hg737, hE.keep trivial, hI⟩
  obtain ⟨stp746, hF, hO735⟩ := forL_step hO735; obtain ⟨hx752, hd751, hlt753⟩ := drop_cons hd751; unfold law03_LatticeLaws.b0 at hF; refine c_seq ?_; refine c_seq ?_; refine c_reg ?_
  refine run tt_ok 3 hE rfl fun a hE => ?_; refine c_end ?_; refine xT ?_; have hE := hE.tr (t := 35) rfl (decide_eq_true (by omega)); refine c_true hE rfl ?_; refine c_skip ?_; refine xT ?_; refine c_seq ?_
  refine c_block ?_; refine c_seq ?_; refine c_seq ?_; obtain ⟨m785, hF, hR787⟩ := bd hF
  refine c_cut (fun a' w' => ∃ (G783 : GH), G732.le G783 ∧ Env a' 184 [(5, .pointer A25), (7, .int .i64 (p0.length : Int)), (8, .int .i64 (i748 : Int)), (67, .bool m785)] ∧ Inv w0 G0 [] G783 [] w') ?_ ?_
  · refine c_reg ?_; refine run tt_ok 3 hE rfl fun a hE => ?_; obtain ⟨y1413, hy1414, hF⟩ := bd hF
    refine s_call0 cl_14 hI hE rfl rfl ((lattice_Lattice_Join.ok k) _ _ _ _ hy1414 _ _ _ hI.pass0 (h26.mono hg737)) rfl ?_; clear hE hI; rintro a w _ G1416 _ ⟨rfl, rfl⟩ hg1415 hI hE; refine run tt_ok 3 hE rfl fun a hE => ?_
    rcases bool_or (!decide (y1413 = (i748 : Int))) with hb1417 | hb1417
    · replace hF := ct hb1417 hF; have hE := hE.tr (t := 44) rfl hb1417; clear hb1417; refine run tt_ok 23 hE rfl fun a hE => ?_; refine c_end ?_; refine xT ?_; cases hF
      exact ⟨G1416, hg1415, hE.keep ⟨rfl, rfl, rfl, rfl, trivial⟩, hI⟩
    replace hF := cf hb1417 hF; have hE := hE.tr (t := 44) rfl hb1417; clear hb1417; refine run tt_ok 3 hE rfl fun a hE => ?_; obtain ⟨y1418, hy1419, hF⟩ := bd hF
    refine s_call0 cl_15 hI hE rfl rfl ((lattice_Lattice_Meet.ok k) _ _ _ _ hy1419 _ _ _ hI.pass0 (h26.mono (hg737.trans hg1415))) rfl ?_; clear hE hI; rintro a w _ G1421 _ ⟨rfl, rfl⟩ hg1420 hI hE
    refine run tt_ok 4 hE rfl fun a hE => ?_; rcases bool_or (!decide (y1418 = (i748 : Int))) with hb1422 | hb1422
    · replace hF := ct hb1422 hF; have hE := hE.tr (t := 52) rfl hb1422; clear hb1422; refine run tt_ok 15 hE rfl fun a hE => ?_; refine c_end ?_; refine xT ?_; cases hF
      exact ⟨G1421, (hg1415.trans hg1420), hE.keep ⟨rfl, rfl, rfl, rfl, trivial⟩, hI⟩
    replace hF := cf hb1422 hF; have hE := hE.tr (t := 52) rfl hb1422; clear hb1422; refine run tt_ok 2 hE rfl fun a hE => ?_; obtain ⟨y1423, hy1424, hF⟩ := bd hF
    refine s_call0 cl_16 hI hE rfl rfl ((lattice_Lattice_Bottom.ok k) _ _ hy1424 _ _ _ hI.pass0 (h26.mono ((hg737.trans hg1415).trans hg1420))) rfl ?_; clear hE hI; rintro a w _ G1426 _ ⟨rfl, rfl⟩ hg1425 hI hE
    refine run tt_ok 1 hE rfl fun a hE => ?_; obtain ⟨y1427, hy1428, hF⟩ := bd hF
    refine s_call0 cl_13 hI hE rfl rfl ((lattice_Lattice_Leq.ok k) _ _ _ _ hy1428 _ _ _ hI.pass0 (h26.mono (((hg737.trans hg1415).trans hg1420).trans hg1425))) rfl ?_; clear hE hI; rintro a w _ G1430 _ ⟨rfl, rfl⟩ hg1429 hI hE
    refine run tt_ok 3 hE rfl fun a hE => ?_; rcases bool_or (!y1427) with hb1431 | hb1431
    · replace hF := ct hb1431 hF; have hE := hE.tr (t := 60) rfl hb1431; clear hb1431; refine run tt_ok 7 hE rfl fun a hE => ?_; refine c_end ?_; refine xT ?_; cases hF
      exact ⟨G1430, (((hg1415.trans hg1420).trans hg1425).trans hg1429), hE.keep ⟨rfl, rfl, rfl, rfl, trivial⟩, hI⟩
    replace hF := cf hb1431 hF; have hE := hE.tr (t := 60) rfl hb1431; clear hb1431; refine run tt_ok 3 hE rfl fun a hE => ?_; obtain ⟨y1432, hy1433, hF⟩ := bd hF
    refine s_call0 cl_17 hI hE rfl rfl ((lattice_Lattice_Top.ok k) _ _ hy1433 _ _ _ hI.pass0 (h26.mono ((((hg737.trans hg1415).trans hg1420).trans hg1425).trans hg1429))) rfl ?_; clear hE hI
    rintro a w _ G1435 _ ⟨rfl, rfl⟩ hg1434 hI hE; obtain ⟨y1436, hy1437, hF⟩ := bd hF
    refine s_call0 cl_13 hI hE rfl rfl ((lattice_Lattice_Leq.ok k) _ _ _ _ hy1437 _ _ _ hI.pass0 (h26.mono (((((hg737.trans hg1415).trans hg1420).trans hg1425).trans hg1429).trans hg1434))) rfl ?_; clear hE hI
    rintro a w _ G1439 _ ⟨rfl, rfl⟩ hg1438 hI hE; refine run tt_ok 2 hE rfl fun a hE => ?_; refine c_end ?_; refine xT ?_; cases hF
    exact ⟨G1439, (((((hg1415.trans hg1420).trans hg1425).trans hg1429).trans hg1434).trans hg1438), hE.keep ⟨rfl, rfl, rfl, rfl, trivial⟩, hI⟩
  clear hE hI; rintro a w ⟨G783, hg786, hE, hI⟩; clear hF; have hF := hR787; clear hR787; refine xT ?_; refine c_if (b := m785) hE rfl (fun hb1412 => ?_) (fun hb1412 => ?_)
  · replace hF := ct hb1412 hF; refine c_seq ?_; refine c_reg ?_; refine run tt_ok 1 hE rfl fun a hE => ?_; refine c_end ?_; refine xT ?_; refine c_ret ?_; refine xTr ?_; refine xBr ?_; refine xTr ?_; refine xTr ?_
    refine xBr ?_; refine xTr ?_; refine xTr ?_; cases hF; obtain rfl := nxt_ret hO735; have hF := lrk_ret hK736; cases hF; refine r_ret (v := _) hE rfl ⟨_, _, _, rfl, hI.nil, rfl, rfl⟩
  replace hF := cf hb1412 hF; refine c_skip ?_; refine xT ?_; refine c_seq ?_; refine c_reg ?_; refine run tt_ok 1 hE rfl fun a hE => ?_; refine c_end ?_; refine xT ?_; obtain ⟨o1095, hO1096, hK1097⟩ := bd hF; clear hF
  refine c_cut (fun a' w' => ∃ (s1099 : Unit) (G1100 : GH), o1095 = .go s1099 ∧ G783.le G1100 ∧ Env a' 184 [(5, .pointer A25), (7, .int .i64 (p0.length : Int)), (8, .int .i64 (i748 : Int))] ∧ Inv w0 G0 [] G1100 [] w') ?_ ?_
  rotate_left
  · clear hE hI hO1096; rintro a w ⟨s1099, G1100, rfl, hg1101, hE, hI⟩; have hF := lrk_go hK1097; clear hK1097; refine xB ?_; refine xT ?_; refine c_reg ?_; refine run tt_ok 3 hE rfl fun a hE => ?_; refine c_end ?_
    refine xT ?_; cases hF; have hE := hE.setI (t := 8) rfl (w64_succ hlt753 (len_le h3))
    exact ⟨rest750.length, Nat.lt_succ_self _, i748 + 1, rest750, _, G1100, rfl, hlt753, hd751, hO735, ((hg737.trans hg786).trans hg1101), hE.keep ⟨rfl, rfl, rfl, trivial⟩, hI⟩
  refine c_block ?_
  refine wp_loop_ghost (fun n' a' w' => ∃ (i1104 : Nat) (rest1106 : List ByteArray) (s1094 : Unit) (G1093 : GH), n' = rest1106.length ∧ i1104 ≤ p0.length ∧ p0.drop i1104 = rest1106 ∧ forL (law03_LatticeLaws.b1 k y21 i748 p0) i1104 rest1106 s1094 = some o1095 ∧ G783.le G1093 ∧ Env a' 184 [(9, .int .i64 (i1104 : Int)), (5, .pointer A25), (7, .int .i64 (p0.length : Int)), (8, .int .i64 (i748 : Int))] ∧ Inv w0 G0 [] G1093 [] w') _ ⟨0, _, _, G783, rfl, Nat.zero_le _, rfl, hO1096, (GH.le.refl _), hE.keep ⟨rfl, rfl, rfl, rfl, trivial⟩, hI⟩ ?_
  clear hE hI hO1096; rintro m1103 a w ⟨i1104, rest1106, s1094, G1093, rfl, hi1110, hd1107, hO1096, hg1098, hE, hI⟩; rcases rest1106 with _ | ⟨x1105, rest1106⟩
  · obtain rfl := forL_nil hO1096; have hlt1109 := drop_nil hd1107 hi1110; clear hd1107; refine c_seq ?_; refine c_seq ?_; refine c_reg ?_; refine run tt_ok 3 hE rfl fun a hE => ?_; refine c_end ?_; refine xT ?_
    have hE := hE.tr (t := 70) rfl (decide_eq_false (by omega)); refine c_false hE rfl ?_; refine c_exit ?_; refine xTe ?_; refine xTe ?_; refine xBh ?_; refine xT ?_
    exact ⟨_, G1093, rfl, hg1098, hE.keep ⟨rfl, rfl, rfl, trivial⟩, hI⟩
  obtain ⟨stp1102, hF, hO1096⟩ := forL_step hO1096; obtain ⟨hx1108, hd1107, hlt1109⟩ := drop_cons hd1107; unfold law03_LatticeLaws.b1 at hF; refine c_seq ?_; refine c_seq ?_; refine c_reg ?_
  refine run tt_ok 3 hE rfl fun a hE => ?_; refine c_end ?_; refine xT ?_; have hE := hE.tr (t := 70) rfl (decide_eq_true (by omega)); refine c_true hE rfl ?_; refine c_skip ?_; refine xT ?_; refine c_seq ?_
  refine c_block ?_; refine c_seq ?_; refine c_reg ?_; refine run tt_ok 3 hE rfl fun a hE => ?_; obtain ⟨y1113, hy1114, hF⟩ := bd hF
  refine s_call0 cl_14 hI hE rfl rfl ((lattice_Lattice_Join.ok k) _ _ _ _ hy1114 _ _ _ hI.pass0 (h26.mono ((hg737.trans hg786).trans hg1098))) rfl ?_; clear hE hI; rintro a w _ G1116 _ ⟨rfl, rfl⟩ hg1115 hI hE
  refine run tt_ok 3 hE rfl fun a hE => ?_; obtain ⟨y1117, hy1118, hF⟩ := bd hF
  refine s_call0 cl_15 hI hE rfl rfl ((lattice_Lattice_Meet.ok k) _ _ _ _ hy1118 _ _ _ hI.pass0 (h26.mono (((hg737.trans hg786).trans hg1098).trans hg1115))) rfl ?_; clear hE hI; rintro a w _ G1120 _ ⟨rfl, rfl⟩ hg1119 hI hE
  refine run tt_ok 2 hE rfl fun a hE => ?_; refine c_end ?_; refine xT ?_; refine c_seq ?_; refine c_seq ?_; obtain ⟨m1153, hF, hR1155⟩ := bd hF
  refine c_cut (fun a' w' => ∃ (G1151 : GH), G1120.le G1151 ∧ Env a' 184 [(5, .pointer A25), (7, .int .i64 (p0.length : Int)), (8, .int .i64 (i748 : Int)), (9, .int .i64 (i1104 : Int)), (10, .int .i64 y1113), (11, .int .i64 y1117), (130, .bool m1153)] ∧ Inv w0 G0 [] G1151 [] w') ?_ ?_
  · refine c_reg ?_; refine run tt_ok 4 hE rfl fun a hE => ?_; obtain ⟨y1383, hy1384, hF⟩ := bd hF
    refine s_call0 cl_14 hI hE rfl rfl ((lattice_Lattice_Join.ok k) _ _ _ _ hy1384 _ _ _ hI.pass0 (h26.mono ((((hg737.trans hg786).trans hg1098).trans hg1115).trans hg1119))) rfl ?_; clear hE hI
    rintro a w _ G1386 _ ⟨rfl, rfl⟩ hg1385 hI hE; refine run tt_ok 2 hE rfl fun a hE => ?_; rcases bool_or (!decide (y1113 = y1383)) with hb1387 | hb1387
    · replace hF := ct hb1387 hF; have hE := hE.tr (t := 87) rfl hb1387; clear hb1387; refine run tt_ok 43 hE rfl fun a hE => ?_; refine c_end ?_; refine xT ?_; cases hF
      exact ⟨G1386, hg1385, hE.keep ⟨rfl, rfl, rfl, rfl, rfl, rfl, rfl, trivial⟩, hI⟩
    replace hF := cf hb1387 hF; have hE := hE.tr (t := 87) rfl hb1387; clear hb1387; refine run tt_ok 4 hE rfl fun a hE => ?_; obtain ⟨y1388, hy1389, hF⟩ := bd hF
    refine s_call0 cl_15 hI hE rfl rfl ((lattice_Lattice_Meet.ok k) _ _ _ _ hy1389 _ _ _ hI.pass0 (h26.mono (((((hg737.trans hg786).trans hg1098).trans hg1115).trans hg1119).trans hg1385))) rfl ?_; clear hE hI
    rintro a w _ G1391 _ ⟨rfl, rfl⟩ hg1390 hI hE; refine run tt_ok 3 hE rfl fun a hE => ?_; rcases bool_or (!decide (y1117 = y1388)) with hb1392 | hb1392
    · replace hF := ct hb1392 hF; have hE := hE.tr (t := 95) rfl hb1392; clear hb1392; refine run tt_ok 35 hE rfl fun a hE => ?_; refine c_end ?_; refine xT ?_; cases hF
      exact ⟨G1391, (hg1385.trans hg1390), hE.keep ⟨rfl, rfl, rfl, rfl, rfl, rfl, rfl, trivial⟩, hI⟩
    replace hF := cf hb1392 hF; have hE := hE.tr (t := 95) rfl hb1392; clear hb1392; refine run tt_ok 3 hE rfl fun a hE => ?_; obtain ⟨y1393, hy1394, hF⟩ := bd hF
    refine s_call0 cl_13 hI hE rfl rfl ((lattice_Lattice_Leq.ok k) _ _ _ _ hy1394 _ _ _ hI.pass0 (h26.mono ((((((hg737.trans hg786).trans hg1098).trans hg1115).trans hg1119).trans hg1385).trans hg1390))) rfl ?_; clear hE hI
    rintro a w _ G1396 _ ⟨rfl, rfl⟩ hg1395 hI hE; refine run tt_ok 3 hE rfl fun a hE => ?_; refine s_rt hI hE rfl (f_bne ub_4 rfl rfl) rfl fun a hE => ?_; refine run tt_ok 2 hE rfl fun a hE => ?_
    rcases bool_or (!(y1393 == (decide (y1113 = (i1104 : Int))))) with hb1397 | hb1397
    · replace hF := ct hb1397 hF; have hE := hE.tr (t := 105) rfl hb1397; clear hb1397; refine run tt_ok 25 hE rfl fun a hE => ?_; refine c_end ?_; refine xT ?_; cases hF
      exact ⟨G1396, ((hg1385.trans hg1390).trans hg1395), hE.keep ⟨rfl, rfl, rfl, rfl, rfl, rfl, rfl, trivial⟩, hI⟩
    replace hF := cf hb1397 hF; have hE := hE.tr (t := 105) rfl hb1397; clear hb1397; refine run tt_ok 3 hE rfl fun a hE => ?_; obtain ⟨y1398, hy1399, hF⟩ := bd hF
    refine s_call0 cl_13 hI hE rfl rfl ((lattice_Lattice_Leq.ok k) _ _ _ _ hy1399 _ _ _ hI.pass0 (h26.mono (((((((hg737.trans hg786).trans hg1098).trans hg1115).trans hg1119).trans hg1385).trans hg1390).trans hg1395))) rfl ?_; clear hE hI
    rintro a w _ G1401 _ ⟨rfl, rfl⟩ hg1400 hI hE; refine run tt_ok 3 hE rfl fun a hE => ?_; refine s_rt hI hE rfl (f_bne ub_4 rfl rfl) rfl fun a hE => ?_; refine run tt_ok 2 hE rfl fun a hE => ?_
    rcases bool_or (!(y1398 == (decide (y1117 = (i748 : Int))))) with hb1402 | hb1402
    · replace hF := ct hb1402 hF; have hE := hE.tr (t := 115) rfl hb1402; clear hb1402; refine run tt_ok 15 hE rfl fun a hE => ?_; refine c_end ?_; refine xT ?_; cases hF
      exact ⟨G1401, (((hg1385.trans hg1390).trans hg1395).trans hg1400), hE.keep ⟨rfl, rfl, rfl, rfl, rfl, rfl, rfl, trivial⟩, hI⟩
    replace hF := cf hb1402 hF; have hE := hE.tr (t := 115) rfl hb1402; clear hb1402; refine run tt_ok 3 hE rfl fun a hE => ?_; obtain ⟨y1403, hy1404, hF⟩ := bd hF
    refine s_call0 cl_14 hI hE rfl rfl ((lattice_Lattice_Join.ok k) _ _ _ _ hy1404 _ _ _ hI.pass0 (h26.mono ((((((((hg737.trans hg786).trans hg1098).trans hg1115).trans hg1119).trans hg1385).trans hg1390).trans hg1395).trans hg1400))) rfl ?_; clear hE hI
    rintro a w _ G1406 _ ⟨rfl, rfl⟩ hg1405 hI hE; refine run tt_ok 4 hE rfl fun a hE => ?_; rcases bool_or (!decide (y1403 = (i748 : Int))) with hb1407 | hb1407
    · replace hF := ct hb1407 hF; have hE := hE.tr (t := 123) rfl hb1407; clear hb1407; refine run tt_ok 7 hE rfl fun a hE => ?_; refine c_end ?_; refine xT ?_; cases hF
      exact ⟨G1406, ((((hg1385.trans hg1390).trans hg1395).trans hg1400).trans hg1405), hE.keep ⟨rfl, rfl, rfl, rfl, rfl, rfl, rfl, trivial⟩, hI⟩
    replace hF := cf hb1407 hF; have hE := hE.tr (t := 123) rfl hb1407; clear hb1407; refine run tt_ok 3 hE rfl fun a hE => ?_; obtain ⟨y1408, hy1409, hF⟩ := bd hF
    refine s_call0 cl_15 hI hE rfl rfl ((lattice_Lattice_Meet.ok k) _ _ _ _ hy1409 _ _ _ hI.pass0 (h26.mono (((((((((hg737.trans hg786).trans hg1098).trans hg1115).trans hg1119).trans hg1385).trans hg1390).trans hg1395).trans hg1400).trans hg1405))) rfl ?_; clear hE hI
    rintro a w _ G1411 _ ⟨rfl, rfl⟩ hg1410 hI hE; refine run tt_ok 3 hE rfl fun a hE => ?_; refine c_end ?_; refine xT ?_; cases hF
    exact ⟨G1411, (((((hg1385.trans hg1390).trans hg1395).trans hg1400).trans hg1405).trans hg1410), hE.keep ⟨rfl, rfl, rfl, rfl, rfl, rfl, rfl, trivial⟩, hI⟩
  clear hE hI; rintro a w ⟨G1151, hg1154, hE, hI⟩; clear hF; have hF := hR1155; clear hR1155; refine xT ?_; refine c_if (b := m1153) hE rfl (fun hb1382 => ?_) (fun hb1382 => ?_)
  · replace hF := ct hb1382 hF; refine c_seq ?_; refine c_reg ?_; refine run tt_ok 1 hE rfl fun a hE => ?_; refine c_end ?_; refine xT ?_; refine c_ret ?_; refine xTr ?_; refine xBr ?_; refine xTr ?_; refine xTr ?_
    refine xBr ?_; refine xTr ?_; refine xBr ?_; refine xTr ?_; refine xTr ?_; refine xBr ?_; refine xTr ?_; refine xTr ?_; cases hF; obtain rfl := nxt_ret hO1096; have hF := lrk_ret hK1097
    cases hF; obtain rfl := nxt_ret hO735; have hF := lrk_ret hK736; cases hF; refine r_ret (v := _) hE rfl ⟨_, _, _, rfl, hI.nil, rfl, rfl⟩
  replace hF := cf hb1382 hF; refine c_skip ?_; refine xT ?_; refine c_seq ?_; refine c_reg ?_; refine run tt_ok 1 hE rfl fun a hE => ?_; refine c_end ?_; refine xT ?_; obtain ⟨o1264, hO1265, hK1266⟩ := bd hF; clear hF
  refine c_cut (fun a' w' => ∃ (s1268 : Unit) (G1269 : GH), o1264 = .go s1268 ∧ G1151.le G1269 ∧ Env a' 184 [(5, .pointer A25), (7, .int .i64 (p0.length : Int)), (8, .int .i64 (i748 : Int)), (9, .int .i64 (i1104 : Int))] ∧ Inv w0 G0 [] G1269 [] w') ?_ ?_
  rotate_left
  · clear hE hI hO1265; rintro a w ⟨s1268, G1269, rfl, hg1270, hE, hI⟩; have hF := lrk_go hK1266; clear hK1266; refine xB ?_; refine xT ?_; refine c_reg ?_; refine run tt_ok 3 hE rfl fun a hE => ?_; refine c_end ?_
    refine xT ?_; cases hF; have hE := hE.setI (t := 9) rfl (w64_succ hlt1109 (len_le h3))
    exact ⟨rest1106.length, Nat.lt_succ_self _, i1104 + 1, rest1106, _, G1269, rfl, hlt1109, hd1107, hO1096, ((((hg1098.trans hg1115).trans hg1119).trans hg1154).trans hg1270), hE.keep ⟨rfl, rfl, rfl, rfl, trivial⟩, hI⟩
  refine c_block ?_
  refine wp_loop_ghost (fun n' a' w' => ∃ (i1273 : Nat) (rest1275 : List ByteArray) (s1263 : Unit) (G1262 : GH), n' = rest1275.length ∧ i1273 ≤ p0.length ∧ p0.drop i1273 = rest1275 ∧ forL (law03_LatticeLaws.b2 k y21 y1113 i1104 i748 y1117) i1273 rest1275 s1263 = some o1264 ∧ G1151.le G1262 ∧ Env a' 184 [(12, .int .i64 (i1273 : Int)), (5, .pointer A25), (7, .int .i64 (p0.length : Int)), (8, .int .i64 (i748 : Int)), (9, .int .i64 (i1104 : Int)), (10, .int .i64 y1113), (11, .int .i64 y1117)] ∧ Inv w0 G0 [] G1262 [] w') _ ⟨0, _, _, G1151, rfl, Nat.zero_le _, rfl, hO1265, (GH.le.refl _), hE.keep ⟨rfl, rfl, rfl, rfl, rfl, rfl, rfl, trivial⟩, hI⟩ ?_
  clear hE hI hO1265; rintro m1272 a w ⟨i1273, rest1275, s1263, G1262, rfl, hi1279, hd1276, hO1265, hg1267, hE, hI⟩; rcases rest1275 with _ | ⟨x1274, rest1275⟩
  · obtain rfl := forL_nil hO1265; have hlt1278 := drop_nil hd1276 hi1279; clear hd1276; refine c_seq ?_; refine c_seq ?_; refine c_reg ?_; refine run tt_ok 3 hE rfl fun a hE => ?_; refine c_end ?_; refine xT ?_
    have hE := hE.tr (t := 133) rfl (decide_eq_false (by omega)); refine c_false hE rfl ?_; refine c_exit ?_; refine xTe ?_; refine xTe ?_; refine xBh ?_; refine xT ?_
    exact ⟨_, G1262, rfl, hg1267, hE.keep ⟨rfl, rfl, rfl, rfl, trivial⟩, hI⟩
  obtain ⟨stp1271, hF, hO1265⟩ := forL_step hO1265; obtain ⟨hx1277, hd1276, hlt1278⟩ := drop_cons hd1276; unfold law03_LatticeLaws.b2 at hF; refine c_seq ?_; refine c_seq ?_; refine c_reg ?_
  refine run tt_ok 3 hE rfl fun a hE => ?_; refine c_end ?_; refine xT ?_; have hE := hE.tr (t := 133) rfl (decide_eq_true (by omega)); refine c_true hE rfl ?_; refine c_skip ?_; refine xT ?_; refine c_seq ?_
  refine c_block ?_; refine c_seq ?_; refine c_seq ?_; obtain ⟨m1310, hF, hR1312⟩ := bd hF
  refine c_cut (fun a' w' => ∃ (G1308 : GH), G1262.le G1308 ∧ Env a' 184 [(5, .pointer A25), (7, .int .i64 (p0.length : Int)), (8, .int .i64 (i748 : Int)), (9, .int .i64 (i1104 : Int)), (10, .int .i64 y1113), (11, .int .i64 y1117), (12, .int .i64 (i1273 : Int)), (161, .bool m1310)] ∧ Inv w0 G0 [] G1308 [] w') ?_ ?_
  · refine c_reg ?_; refine run tt_ok 3 hE rfl fun a hE => ?_; obtain ⟨y1357, hy1358, hF⟩ := bd hF
    refine s_call0 cl_14 hI hE rfl rfl ((lattice_Lattice_Join.ok k) _ _ _ _ hy1358 _ _ _ hI.pass0 (h26.mono ((((((hg737.trans hg786).trans hg1098).trans hg1115).trans hg1119).trans hg1154).trans hg1267))) rfl ?_; clear hE hI
    rintro a w _ G1360 _ ⟨rfl, rfl⟩ hg1359 hI hE; refine run tt_ok 5 hE rfl fun a hE => ?_; obtain ⟨y1361, hy1362, hF⟩ := bd hF
    refine s_call0 cl_14 hI hE rfl rfl ((lattice_Lattice_Join.ok k) _ _ _ _ hy1362 _ _ _ hI.pass0 (h26.mono (((((((hg737.trans hg786).trans hg1098).trans hg1115).trans hg1119).trans hg1154).trans hg1267).trans hg1359))) rfl ?_; clear hE hI
    rintro a w _ G1364 _ ⟨rfl, rfl⟩ hg1363 hI hE; obtain ⟨y1365, hy1366, hF⟩ := bd hF
    refine s_call0 cl_14 hI hE rfl rfl ((lattice_Lattice_Join.ok k) _ _ _ _ hy1366 _ _ _ hI.pass0 (h26.mono ((((((((hg737.trans hg786).trans hg1098).trans hg1115).trans hg1119).trans hg1154).trans hg1267).trans hg1359).trans hg1363))) rfl ?_; clear hE hI
    rintro a w _ G1368 _ ⟨rfl, rfl⟩ hg1367 hI hE; refine run tt_ok 2 hE rfl fun a hE => ?_; rcases bool_or (!decide (y1357 = y1365)) with hb1369 | hb1369
    · replace hF := ct hb1369 hF; have hE := hE.tr (t := 148) rfl hb1369; clear hb1369; refine run tt_ok 13 hE rfl fun a hE => ?_; refine c_end ?_; refine xT ?_; cases hF
      exact ⟨G1368, ((hg1359.trans hg1363).trans hg1367), hE.keep ⟨rfl, rfl, rfl, rfl, rfl, rfl, rfl, rfl, trivial⟩, hI⟩
    replace hF := cf hb1369 hF; have hE := hE.tr (t := 148) rfl hb1369; clear hb1369; refine run tt_ok 3 hE rfl fun a hE => ?_; obtain ⟨y1370, hy1371, hF⟩ := bd hF
    refine s_call0 cl_15 hI hE rfl rfl ((lattice_Lattice_Meet.ok k) _ _ _ _ hy1371 _ _ _ hI.pass0 (h26.mono (((((((((hg737.trans hg786).trans hg1098).trans hg1115).trans hg1119).trans hg1154).trans hg1267).trans hg1359).trans hg1363).trans hg1367))) rfl ?_; clear hE hI
    rintro a w _ G1373 _ ⟨rfl, rfl⟩ hg1372 hI hE; refine run tt_ok 5 hE rfl fun a hE => ?_; obtain ⟨y1374, hy1375, hF⟩ := bd hF
    refine s_call0 cl_15 hI hE rfl rfl ((lattice_Lattice_Meet.ok k) _ _ _ _ hy1375 _ _ _ hI.pass0 (h26.mono ((((((((((hg737.trans hg786).trans hg1098).trans hg1115).trans hg1119).trans hg1154).trans hg1267).trans hg1359).trans hg1363).trans hg1367).trans hg1372))) rfl ?_; clear hE hI
    rintro a w _ G1377 _ ⟨rfl, rfl⟩ hg1376 hI hE; obtain ⟨y1378, hy1379, hF⟩ := bd hF
    refine s_call0 cl_15 hI hE rfl rfl ((lattice_Lattice_Meet.ok k) _ _ _ _ hy1379 _ _ _ hI.pass0 (h26.mono (((((((((((hg737.trans hg786).trans hg1098).trans hg1115).trans hg1119).trans hg1154).trans hg1267).trans hg1359).trans hg1363).trans hg1367).trans hg1372).trans hg1376))) rfl ?_; clear hE hI
    rintro a w _ G1381 _ ⟨rfl, rfl⟩ hg1380 hI hE; refine run tt_ok 2 hE rfl fun a hE => ?_; refine c_end ?_; refine xT ?_; cases hF
    exact ⟨G1381, (((((hg1359.trans hg1363).trans hg1367).trans hg1372).trans hg1376).trans hg1380), hE.keep ⟨rfl, rfl, rfl, rfl, rfl, rfl, rfl, rfl, trivial⟩, hI⟩
  clear hE hI; rintro a w ⟨G1308, hg1311, hE, hI⟩; clear hF; have hF := hR1312; clear hR1312; refine xT ?_; refine c_if (b := m1310) hE rfl (fun hb1356 => ?_) (fun hb1356 => ?_)
  · replace hF := ct hb1356 hF; refine c_seq ?_; refine c_reg ?_; refine run tt_ok 1 hE rfl fun a hE => ?_; refine c_end ?_; refine xT ?_; refine c_ret ?_; refine xTr ?_; refine xBr ?_; refine xTr ?_; refine xTr ?_
    refine xBr ?_; refine xTr ?_; refine xBr ?_; refine xTr ?_; refine xTr ?_; refine xBr ?_; refine xTr ?_; refine xBr ?_; refine xTr ?_; refine xTr ?_; refine xBr ?_; refine xTr ?_; refine xTr ?_
    cases hF; obtain rfl := nxt_ret hO1265; have hF := lrk_ret hK1266; cases hF; obtain rfl := nxt_ret hO1096; have hF := lrk_ret hK1097; cases hF; obtain rfl := nxt_ret hO735; have hF := lrk_ret hK736; cases hF
    refine r_ret (v := _) hE rfl ⟨_, _, _, rfl, hI.nil, rfl, rfl⟩
  replace hF := cf hb1356 hF; refine c_skip ?_; refine xT ?_; refine c_seq ?_; obtain ⟨m1334, hF, hR1336⟩ := bd hF
  refine c_cut (fun a' w' => ∃ (G1332 : GH), G1308.le G1332 ∧ Env a' 184 [(5, .pointer A25), (7, .int .i64 (p0.length : Int)), (8, .int .i64 (i748 : Int)), (9, .int .i64 (i1104 : Int)), (10, .int .i64 y1113), (11, .int .i64 y1117), (12, .int .i64 (i1273 : Int)), (182, .bool m1334)] ∧ Inv w0 G0 [] G1332 [] w') ?_ ?_
  rotate_left
  · clear hE hI; rintro a w ⟨G1332, hg1335, hE, hI⟩; clear hF; have hF := hR1336; clear hR1336; refine xT ?_; refine c_if (b := m1334) hE rfl (fun hb1337 => ?_) (fun hb1337 => ?_); rotate_left
    · replace hF := cf hb1337 hF; refine c_skip ?_; refine xB ?_; refine xT ?_; refine c_reg ?_; refine run tt_ok 3 hE rfl fun a hE => ?_; refine c_end ?_; refine xT ?_; cases hF
      have hE := hE.setI (t := 12) rfl (w64_succ hlt1278 (len_le h3))
      exact ⟨rest1275.length, Nat.lt_succ_self _, i1273 + 1, rest1275, _, G1332, rfl, hlt1278, hd1276, hO1265, ((hg1267.trans hg1311).trans hg1335), hE.keep ⟨rfl, rfl, rfl, rfl, rfl, rfl, rfl, trivial⟩, hI⟩
    replace hF := ct hb1337 hF; refine c_seq ?_; refine c_reg ?_; refine run tt_ok 1 hE rfl fun a hE => ?_; refine c_end ?_; refine xT ?_; refine c_ret ?_; refine xBr ?_; refine xTr ?_; refine xTr ?_; refine xBr ?_
    refine xTr ?_; refine xBr ?_; refine xTr ?_; refine xTr ?_; refine xBr ?_; refine xTr ?_; refine xBr ?_; refine xTr ?_; refine xTr ?_; refine xBr ?_; refine xTr ?_; refine xTr ?_
    cases hF; obtain rfl := nxt_ret hO1265; have hF := lrk_ret hK1266; cases hF; obtain rfl := nxt_ret hO1096; have hF := lrk_ret hK1097; cases hF; obtain rfl := nxt_ret hO735; have hF := lrk_ret hK736; cases hF
    refine r_ret (v := _) hE rfl ⟨_, _, _, rfl, hI.nil, rfl, rfl⟩
  refine c_reg ?_; refine run tt_ok 3 hE rfl fun a hE => ?_; obtain ⟨y1338, hy1339, hF⟩ := bd hF
  refine s_call0 cl_13 hI hE rfl rfl ((lattice_Lattice_Leq.ok k) _ _ _ _ hy1339 _ _ _ hI.pass0 (h26.mono (((((((hg737.trans hg786).trans hg1098).trans hg1115).trans hg1119).trans hg1154).trans hg1267).trans hg1311))) rfl ?_; clear hE hI
  rintro a w _ G1341 _ ⟨rfl, rfl⟩ hg1340 hI hE; refine run tt_ok 1 hE rfl fun a hE => ?_; rcases bool_or y1338 with hb1342 | hb1342; rotate_left
  · replace hF := cf hb1342 hF; have hE := hE.tr (t := 166) rfl hb1342; clear hb1342; refine run tt_ok 16 hE rfl fun a hE => ?_; refine c_end ?_; refine xT ?_; cases hF
    exact ⟨G1341, hg1340, hE.keep ⟨rfl, rfl, rfl, rfl, rfl, rfl, rfl, rfl, trivial⟩, hI⟩
  replace hF := ct hb1342 hF; have hE := hE.tr (t := 166) rfl hb1342; clear hb1342; refine run tt_ok 3 hE rfl fun a hE => ?_; obtain ⟨y1343, hy1344, hF⟩ := bd hF
  refine s_call0 cl_13 hI hE rfl rfl ((lattice_Lattice_Leq.ok k) _ _ _ _ hy1344 _ _ _ hI.pass0 (h26.mono ((((((((hg737.trans hg786).trans hg1098).trans hg1115).trans hg1119).trans hg1154).trans hg1267).trans hg1311).trans hg1340))) rfl ?_; clear hE hI
  rintro a w _ G1346 _ ⟨rfl, rfl⟩ hg1345 hI hE; refine run tt_ok 3 hE rfl fun a hE => ?_; obtain ⟨y1347, hy1348, hF⟩ := bd hF
  refine s_call0 cl_13 hI hE rfl rfl ((lattice_Lattice_Leq.ok k) _ _ _ _ hy1348 _ _ _ hI.pass0 (h26.mono (((((((((hg737.trans hg786).trans hg1098).trans hg1115).trans hg1119).trans hg1154).trans hg1267).trans hg1311).trans hg1340).trans hg1345))) rfl ?_; clear hE hI
  rintro a w _ G1350 _ ⟨rfl, rfl⟩ hg1349 hI hE; refine s_rt hI hE rfl (f_bne ub_4 rfl rfl) rfl fun a hE => ?_; refine run tt_ok 2 hE rfl fun a hE => ?_; rcases bool_or (!(y1343 == y1347)) with hb1351 | hb1351; rotate_left
  · replace hF := cf hb1351 hF; have hE := hE.tr (t := 177) rfl hb1351; clear hb1351; refine run tt_ok 5 hE rfl fun a hE => ?_; refine c_end ?_; refine xT ?_; cases hF
    exact ⟨G1350, ((hg1340.trans hg1345).trans hg1349), hE.keep ⟨rfl, rfl, rfl, rfl, rfl, rfl, rfl, rfl, trivial⟩, hI⟩
  replace hF := ct hb1351 hF; have hE := hE.tr (t := 177) rfl hb1351; clear hb1351; refine run tt_ok 3 hE rfl fun a hE => ?_; obtain ⟨y1352, hy1353, hF⟩ := bd hF
  refine s_call0 cl_13 hI hE rfl rfl ((lattice_Lattice_Leq.ok k) _ _ _ _ hy1353 _ _ _ hI.pass0 (h26.mono ((((((((((hg737.trans hg786).trans hg1098).trans hg1115).trans hg1119).trans hg1154).trans hg1267).trans hg1311).trans hg1340).trans hg1345).trans hg1349))) rfl ?_; clear hE hI
  rintro a w _ G1355 _ ⟨rfl, rfl⟩ hg1354 hI hE; refine run tt_ok 1 hE rfl fun a hE => ?_; refine c_end ?_; refine xT ?_; cases hF
  exact ⟨G1355, (((hg1340.trans hg1345).trans hg1349).trans hg1354), hE.keep ⟨rfl, rfl, rfl, rfl, rfl, rfl, rfl, rfl, trivial⟩, hI⟩

theorem cl_5 : Callable Try.prog 5 := ⟨_, Try.func5, by kernel_rfl, by kernel_rfl⟩

def law03_LatticeTurned.C (s : (List ByteArray) → (List TPair) → Option Bool) : Prop := ∀ (p0 : List ByteArray) (p1 : List TPair) (r : Bool), s p0 p1 = some r → ∀ (w0 : World) (G0 : GH) (A1 : Option Addr) (c2 : Nat) (A4 : Option Addr) (c5 : Nat), Inv w0 G0 [] G0 [] w0 → (Sl G0 A1 c2 1 (p0.map D.str)) → (Sl G0 A4 c5 2 (p1.map TPair.d)) → Calls Try.prog 5 #[.slice A1 p0.length c2, .slice A4 p1.length c5] w0 (Ret w0 G0 [] fun G' L' v => L' = [] ∧ v = .bool r)

theorem law03_LatticeTurned.ok (k : Nat) : law03_LatticeTurned.C (law03_LatticeTurned k) := by
  intro p0 p1 r hF w0 G0 A1 c2 A4 c5 hI h3 h6
  unfold law03_LatticeTurned at hF
  refine calls_of_wp Try.func5 rfl ?_
  have hE : Env _ 117 [(0, .slice A1 p0.length c2), (1, .slice A4 p1.length c5)] := Env.start ⟨[.slice A1 p0.length c2, .slice A4 p1.length c5]⟩ 115
  refine c_seq ?_; refine c_reg ?_; refine run tt_ok 1 hE rfl fun a hE => ?_; refine c_end ?_; refine xT ?_; refine c_seq ?_; refine c_seq ?_; refine c_reg ?_; refine run tt_ok 2 hE rfl fun a hE => ?_
  obtain ⟨y8, hy9, hF⟩ := bd hF; refine s_call0 cl_10 hI hE rfl rfl ((law03_Few.ok k) _ _ _ hy9 _ _ _ _ _ _ hI.pass0 h3 h6) rfl ?_; clear hE hI; rintro a w _ G11 _ ⟨rfl, rfl⟩ hg10 hI hE
  refine run tt_ok 1 hE rfl fun a hE => ?_; refine c_end ?_; refine xT ?_; refine c_if (b := !y8) hE rfl (fun hb559 => ?_) (fun hb559 => ?_)
  · replace hF := ct hb559 hF; refine c_seq ?_; refine c_reg ?_; obtain ⟨y13, hy14, hF⟩ := bd hF; refine s_call0 cl_11 hI hE rfl rfl ((law03_alive.ok k) _ hy14 _ _  hI.pass0 ) rfl ?_; clear hE hI
    rintro a w _ G16 _ ⟨rfl, rfl⟩ hg15 hI hE; refine run tt_ok 1 hE rfl fun a hE => ?_; refine c_end ?_; refine xT ?_; refine c_ret ?_; refine xTr ?_; cases hF; refine r_ret (v := _) hE rfl ⟨_, _, _, rfl, hI.nil, rfl, rfl⟩
  replace hF := cf hb559 hF; refine c_skip ?_; refine xT ?_; refine c_seq ?_; refine c_reg ?_; refine run tt_ok 1 hE rfl fun a hE => ?_; refine c_end ?_; refine xT ?_; refine c_seq ?_; refine c_seq ?_; refine c_reg ?_
  refine run tt_ok 3 hE rfl fun a hE => ?_; refine c_end ?_; refine xT ?_; have hI := hI.nilrow 27 2; have hR45 : RL G11 2 (([] : List TPair).map TPair.d) [] := RL.nil; obtain ⟨o118, hO119, hK120⟩ := bd hF; clear hF
  refine c_cut (fun a' w' => ∃ (s122 : (List TPair)) (G123 : GH) (A125 : Option Addr) (c126 : Nat) (cs127 : List Value), o118 = .go s122 ∧ G11.le G123 ∧ Env a' 117 [(0, .slice A1 p0.length c2), (1, .slice A4 p1.length c5), (5, .slice A125 s122.length c126)] ∧ Inv w0 G0 [] G123 [.row (.slice A125 s122.length c126) 27 2 s122.length cs127] w' ∧ RL G123 2 (s122.map TPair.d) cs127) ?_ ?_
  · refine c_block ?_
    refine wp_loop_ghost (fun n' a' w' => ∃ (i531 : Nat) (rest533 : List TPair) (s117 : (List TPair)) (G111 : GH) (A113 : Option Addr) (c114 : Nat) (cs115 : List Value), n' = rest533.length ∧ i531 ≤ p1.length ∧ p1.drop i531 = rest533 ∧ forL (law03_LatticeTurned.b2 k) i531 rest533 s117 = some o118 ∧ G11.le G111 ∧ Env a' 117 [(21, .int .i64 (i531 : Int)), (0, .slice A1 p0.length c2), (1, .slice A4 p1.length c5), (5, .slice A113 s117.length c114), (19, .slice A4 p1.length c5), (20, .int .i64 (p1.length : Int))] ∧ Inv w0 G0 [] G111 [.row (.slice A113 s117.length c114) 27 2 s117.length cs115] w' ∧ RL G111 2 (s117.map TPair.d) cs115) _ ⟨0, _, _, G11, none, 0, [], rfl, Nat.zero_le _, rfl, hO119, (GH.le.refl _), hE.keep ⟨rfl, rfl, rfl, rfl, rfl, rfl, trivial⟩, hI, hR45⟩ ?_
    clear hE hI hO119; rintro m530 a w ⟨i531, rest533, s117, G111, A113, c114, cs115, rfl, hi537, hd534, hO119, hg121, hE, hI, hR116⟩; rcases rest533 with _ | ⟨x532, rest533⟩
    · obtain rfl := forL_nil hO119; have hlt536 := drop_nil hd534 hi537; clear hd534; refine c_seq ?_; refine c_reg ?_; refine run tt_ok 1 hE rfl fun a hE => ?_; refine c_end ?_; refine xT ?_; refine c_seq ?_
      have hE := hE.tr (t := 22) rfl (decide_eq_false (by omega)); refine c_false hE rfl ?_; refine c_exit ?_; refine xTe ?_; refine xTe ?_; refine xBh ?_; refine xT ?_
      exact ⟨_, G111, A113, c114, cs115, rfl, hg121, hE.keep ⟨rfl, rfl, rfl, trivial⟩, hI, hR116⟩
    obtain ⟨stp529, hF, hO119⟩ := forL_step hO119; obtain ⟨hx535, hd534, hlt536⟩ := drop_cons hd534; unfold law03_LatticeTurned.b2 at hF; refine c_seq ?_; refine c_reg ?_; refine run tt_ok 1 hE rfl fun a hE => ?_
    refine c_end ?_; refine xT ?_; refine c_seq ?_; have hE := hE.tr (t := 22) rfl (decide_eq_true (by omega)); refine c_true hE rfl ?_; refine c_skip ?_; refine xT ?_; refine c_seq ?_; refine c_block ?_; refine c_seq ?_
    refine c_reg ?_; obtain ⟨b539, o540, cs, hb543, hR542, hA541⟩ := sl_at (h6.mono (hg10.trans hg121)) (Int.natCast_nonneg _) (natIdx hx535); obtain rfl := TPair.inv.1 hR542
    refine s_rt hI hE rfl (f_idx tt_ok hb543 rfl rfl rfl) rfl fun a hE => ?_; refine s_rt hI hE rfl (f_loadG tt_ok hA541 0 rfl rfl rfl rfl) rfl fun a hE => ?_; refine s_alloc hI hE rfl z_27 rfl rfl fun a w b544 hE hI => ?_
    refine s_storeB tt_ok 0 hI hE rfl rfl rfl rfl rfl rfl rfl rfl rfl rfl fun a w hE hI => ?_; refine c_end ?_; refine xT ?_; refine c_reg ?_; refine run tt_ok 2 hE rfl fun a hE => ?_
    refine s_rt hI hE rfl (f_loadB tt_ok 0 rfl rfl rfl rfl) rfl fun a hE => ?_; refine run tt_ok 1 hE rfl fun a hE => ?_; refine s_rt hI hE rfl (f_loadB tt_ok 0 rfl rfl rfl rfl) rfl fun a hE => ?_
    refine s_rt hI hE rfl (f_build tt_ok rfl z_27 rfl rfl) rfl fun a hE => ?_; refine s_bsl ai_23 hI hE rfl rfl rfl rfl rfl fun a w b551 hE hI => ?_
    have hR553 : RL G111 2 ([(TPair.mk x532.High x532.Low)].map TPair.d) [.string x532.High, .string x532.Low] := (RL.cons (TPair.inv.2 rfl) rfl RL.nil); obtain ⟨_, hb554, hF⟩ := bd hF
    refine s_appO (f := TPair.d) (xs := s117) (ys := [(TPair.mk x532.High x532.Low)]) ai_23 2 0 hI hE rfl rfl rfl hR553 rfl rfl (lim_le hb554) rfl fun a w A555 c556 hE hI => ?_; have hR558 := RL.appm hR116 hR553
    refine run tt_ok 1 hE rfl fun a hE => ?_; refine c_end ?_; refine xB ?_; refine xT ?_; refine c_reg ?_; refine run tt_ok 2 hE rfl fun a hE => ?_; refine c_end ?_; refine xT ?_; cases hF
    have hE := hE.setI (t := 21) rfl (w64_succ hlt536 (len_le h6))
    exact ⟨rest533.length, Nat.lt_succ_self _, i531 + 1, rest533, _, G111, A555, c556, (cs115 ++ [.string x532.High, .string x532.Low]), rfl, hlt536, hd534, hO119, hg121, hE.keep ⟨rfl, rfl, rfl, rfl, rfl, rfl, trivial⟩, (hI.dropN 2 rfl), hR558⟩
  clear hE hI hO119; rintro a w ⟨s122, G123, A125, c126, cs127, rfl, hg129, hE, hI, hR128⟩; have hF := lrk_go hK120; clear hK120; refine xT ?_; refine c_seq ?_; refine c_reg ?_; refine run tt_ok 2 hE rfl fun a hE => ?_
  obtain ⟨y134, hy135, hF⟩ := bd hF; refine s_call0 cl_12 hI hE rfl rfl ((lattice_New.ok k) _ _ _ hy135 _ _ _ _ _ _ hI.pass0 (h3.mono (hg10.trans hg129)) (h6.mono (hg10.trans hg129))) rfl ?_; clear hE hI
  rintro a w _ G137 _ ⟨rfl, A138, rfl, h139⟩ hg136 hI hE; refine run tt_ok 5 hE rfl fun a hE => ?_; refine c_end ?_; refine xT ?_; refine c_seq ?_; refine c_reg ?_; refine run tt_ok 2 hE rfl fun a hE => ?_
  obtain ⟨G144, hg145, hI, h146⟩ := (hI.front 0).giveR (xs := s122.map TPair.d) (by simp) (hR128.mono hg136); obtain ⟨y147, hy148, hF⟩ := bd hF
  refine s_call0 cl_12 hI hE rfl rfl ((lattice_New.ok k) _ _ _ hy148 _ _ _ _ _ _ hI.pass0 (h3.mono (((hg10.trans hg129).trans hg136).trans hg145)) h146) rfl ?_; clear hE hI
  rintro a w _ G150 _ ⟨rfl, A151, rfl, h152⟩ hg149 hI hE; refine run tt_ok 5 hE rfl fun a hE => ?_; refine c_end ?_; refine xT ?_; refine c_seq ?_; refine c_seq ?_; obtain ⟨m156, hF, hR158⟩ := bd hF
  refine c_cut (fun a' w' => ∃ (G154 : GH), G150.le G154 ∧ Env a' 117 [(0, .slice A1 p0.length c2), (8, .pointer A138), (10, .pointer A151), (55, .bool m156)] ∧ Inv w0 G0 [] G154 [] w') ?_ ?_
  · refine c_reg ?_; refine run tt_ok 4 hE rfl fun a hE => ?_; rcases bool_or (!decide (y134.2 = y147.2)) with hb528 | hb528
    · replace hF := ct hb528 hF; have hE := hE.tr (t := 49) rfl hb528; clear hb528; refine run tt_ok 6 hE rfl fun a hE => ?_; refine c_end ?_; refine xT ?_; cases hF
      exact ⟨G150, (GH.le.refl _), hE.keep ⟨rfl, rfl, rfl, rfl, trivial⟩, hI⟩
    replace hF := cf hb528 hF; have hE := hE.tr (t := 49) rfl hb528; clear hb528; refine run tt_ok 1 hE rfl fun a hE => ?_; refine s_rt hI hE rfl (f_pnil up_28 (h139.mono (hg145.trans hg149)) rfl rfl) rfl fun a hE => ?_
    refine run tt_ok 1 hE rfl fun a hE => ?_; refine s_rt hI hE rfl (f_pnil up_28 h152 rfl rfl) rfl fun a hE => ?_; refine s_rt hI hE rfl (f_bne ub_4 rfl rfl) rfl fun a hE => ?_; refine run tt_ok 1 hE rfl fun a hE => ?_
    refine c_end ?_; refine xT ?_; cases hF; exact ⟨G150, (GH.le.refl _), hE.keep ⟨rfl, rfl, rfl, rfl, trivial⟩, hI⟩
  clear hE hI; rintro a w ⟨G154, hg157, hE, hI⟩; clear hF; have hF := hR158; clear hR158; refine xT ?_; refine c_if (b := m156) hE rfl (fun hb527 => ?_) (fun hb527 => ?_)
  · replace hF := ct hb527 hF; refine c_seq ?_; refine c_reg ?_; refine run tt_ok 1 hE rfl fun a hE => ?_; refine c_end ?_; refine xT ?_; refine c_ret ?_; refine xTr ?_; cases hF
    refine r_ret (v := _) hE rfl ⟨_, _, _, rfl, hI.nil, rfl, rfl⟩
  replace hF := cf hb527 hF; refine c_skip ?_; refine xT ?_; refine c_seq ?_; refine c_seq ?_; refine c_reg ?_; refine run tt_ok 1 hE rfl fun a hE => ?_
  refine s_rt hI hE rfl (f_pnil up_28 (h139.mono ((hg145.trans hg149).trans hg157)) rfl rfl) rfl fun a hE => ?_; refine c_end ?_; refine xT ?_; refine c_if (b := y134.1.isNone) hE rfl (fun hb526 => ?_) (fun hb526 => ?_)
  · replace hF := ct hb526 hF; refine c_seq ?_; refine c_reg ?_; obtain ⟨y161, hy162, hF⟩ := bd hF; refine s_call0 cl_11 hI hE rfl rfl ((law03_alive.ok k) _ hy162 _ _  hI.pass0 ) rfl ?_; clear hE hI
    rintro a w _ G164 _ ⟨rfl, rfl⟩ hg163 hI hE; refine run tt_ok 1 hE rfl fun a hE => ?_; refine c_end ?_; refine xT ?_; refine c_ret ?_; refine xTr ?_; cases hF; refine r_ret (v := _) hE rfl ⟨_, _, _, rfl, hI.nil, rfl, rfl⟩
  replace hF := cf hb526 hF; refine c_skip ?_; refine xT ?_; refine c_seq ?_; refine c_seq ?_; refine c_reg ?_; refine run tt_ok 3 hE rfl fun a hE => ?_; refine c_end ?_; refine xT ?_
  obtain ⟨o315, hO316, hK317⟩ := bd hF; clear hF
  refine c_cut (fun a' w' => ∃ (s319 : Unit) (G320 : GH), o315 = .go s319 ∧ G154.le G320 ∧ Env a' 117 [(8, .pointer A138), (10, .pointer A151)] ∧ Inv w0 G0 [] G320 [] w') ?_ ?_; rotate_left
  · clear hE hI hO316; rintro a w ⟨s319, G320, rfl, hg321, hE, hI⟩; have hF := lrk_go hK317; clear hK317; refine xT ?_; refine c_seq ?_; obtain ⟨m348, hF, hR350⟩ := bd hF
    refine c_cut (fun a' w' => ∃ (G346 : GH), G320.le G346 ∧ Env a' 117 [(4, .bool m348)] ∧ Inv w0 G0 [] G346 [] w') ?_ ?_; rotate_left
    · clear hE hI; rintro a w ⟨G346, hg349, hE, hI⟩; clear hF; have hF := hR350; clear hR350; refine xT ?_; refine c_ret ?_; cases hF; refine r_ret (v := _) hE rfl ⟨_, _, _, rfl, hI.nil, rfl, rfl⟩
    refine c_reg ?_; refine run tt_ok 1 hE rfl fun a hE => ?_; obtain ⟨y351, hy352, hF⟩ := bd hF
    refine s_call0 cl_16 hI hE rfl rfl ((lattice_Lattice_Bottom.ok k) _ _ hy352 _ _ _ hI.pass0 (h139.mono (((hg145.trans hg149).trans hg157).trans hg321))) rfl ?_; clear hE hI; rintro a w _ G354 _ ⟨rfl, rfl⟩ hg353 hI hE
    refine run tt_ok 1 hE rfl fun a hE => ?_; obtain ⟨y355, hy356, hF⟩ := bd hF
    refine s_call0 cl_17 hI hE rfl rfl ((lattice_Lattice_Top.ok k) _ _ hy356 _ _ _ hI.pass0 (h152.mono ((hg157.trans hg321).trans hg353))) rfl ?_; clear hE hI; rintro a w _ G358 _ ⟨rfl, rfl⟩ hg357 hI hE
    refine run tt_ok 2 hE rfl fun a hE => ?_; rcases bool_or (decide (y351 = y355)) with hb359 | hb359; rotate_left
    · replace hF := cf hb359 hF; have hE := hE.tr (t := 107) rfl hb359; clear hb359; refine run tt_ok 10 hE rfl fun a hE => ?_; refine c_end ?_; refine xT ?_; cases hF
      exact ⟨G358, (hg353.trans hg357), hE.keep ⟨rfl, trivial⟩, hI⟩
    replace hF := ct hb359 hF; have hE := hE.tr (t := 107) rfl hb359; clear hb359; refine run tt_ok 1 hE rfl fun a hE => ?_; obtain ⟨y360, hy361, hF⟩ := bd hF
    refine s_call0 cl_17 hI hE rfl rfl ((lattice_Lattice_Top.ok k) _ _ hy361 _ _ _ hI.pass0 (h139.mono (((((hg145.trans hg149).trans hg157).trans hg321).trans hg353).trans hg357))) rfl ?_; clear hE hI
    rintro a w _ G363 _ ⟨rfl, rfl⟩ hg362 hI hE; refine run tt_ok 1 hE rfl fun a hE => ?_; obtain ⟨y364, hy365, hF⟩ := bd hF
    refine s_call0 cl_16 hI hE rfl rfl ((lattice_Lattice_Bottom.ok k) _ _ hy365 _ _ _ hI.pass0 (h152.mono ((((hg157.trans hg321).trans hg353).trans hg357).trans hg362))) rfl ?_; clear hE hI
    rintro a w _ G367 _ ⟨rfl, rfl⟩ hg366 hI hE; refine run tt_ok 3 hE rfl fun a hE => ?_; rcases bool_or (decide (y360 = y364)) with hb368 | hb368; rotate_left
    · replace hF := cf hb368 hF; have hE := hE.tr (t := 114) rfl hb368; clear hb368; refine run tt_ok 3 hE rfl fun a hE => ?_; refine c_end ?_; refine xT ?_; cases hF
      exact ⟨G367, (((hg353.trans hg357).trans hg362).trans hg366), hE.keep ⟨rfl, trivial⟩, hI⟩
    replace hF := ct hb368 hF; have hE := hE.tr (t := 114) rfl hb368; clear hb368; obtain ⟨y369, hy370, hF⟩ := bd hF; refine s_call0 cl_11 hI hE rfl rfl ((law03_alive.ok k) _ hy370 _ _  hI.pass0 ) rfl ?_; clear hE hI
    rintro a w _ G372 _ ⟨rfl, rfl⟩ hg371 hI hE; refine run tt_ok 2 hE rfl fun a hE => ?_; refine c_end ?_; refine xT ?_; cases hF
    exact ⟨G372, ((((hg353.trans hg357).trans hg362).trans hg366).trans hg371), hE.keep ⟨rfl, trivial⟩, hI⟩
  refine c_block ?_
  refine wp_loop_ghost (fun n' a' w' => ∃ (i375 : Nat) (rest377 : List ByteArray) (s314 : Unit) (G313 : GH), n' = rest377.length ∧ i375 ≤ p0.length ∧ p0.drop i375 = rest377 ∧ forL (law03_LatticeTurned.b0 k y134 y147 p0) i375 rest377 s314 = some o315 ∧ G154.le G313 ∧ Env a' 117 [(61, .int .i64 (i375 : Int)), (0, .slice A1 p0.length c2), (8, .pointer A138), (10, .pointer A151), (60, .int .i64 (p0.length : Int))] ∧ Inv w0 G0 [] G313 [] w') _ ⟨0, _, _, G154, rfl, Nat.zero_le _, rfl, hO316, (GH.le.refl _), hE.keep ⟨rfl, rfl, rfl, rfl, rfl, trivial⟩, hI⟩ ?_
  clear hE hI hO316; rintro m374 a w ⟨i375, rest377, s314, G313, rfl, hi381, hd378, hO316, hg318, hE, hI⟩; rcases rest377 with _ | ⟨x376, rest377⟩
  · obtain rfl := forL_nil hO316; have hlt380 := drop_nil hd378 hi381; clear hd378; refine c_seq ?_; refine c_reg ?_; refine run tt_ok 1 hE rfl fun a hE => ?_; refine c_end ?_; refine xT ?_; refine c_seq ?_
    have hE := hE.tr (t := 62) rfl (decide_eq_false (by omega)); refine c_false hE rfl ?_; refine c_exit ?_; refine xTe ?_; refine xTe ?_; refine xBh ?_; refine xT ?_
    exact ⟨_, G313, rfl, hg318, hE.keep ⟨rfl, rfl, trivial⟩, hI⟩
  obtain ⟨stp373, hF, hO316⟩ := forL_step hO316; obtain ⟨hx379, hd378, hlt380⟩ := drop_cons hd378; unfold law03_LatticeTurned.b0 at hF; refine c_seq ?_; refine c_reg ?_; refine run tt_ok 1 hE rfl fun a hE => ?_
  refine c_end ?_; refine xT ?_; refine c_seq ?_; have hE := hE.tr (t := 62) rfl (decide_eq_true (by omega)); refine c_true hE rfl ?_; refine c_skip ?_; refine xT ?_; refine c_seq ?_; refine c_block ?_; refine c_seq ?_
  refine c_reg ?_; refine run tt_ok 2 hE rfl fun a hE => ?_; refine c_end ?_; refine xT ?_; refine c_seq ?_; refine c_reg ?_; refine run tt_ok 3 hE rfl fun a hE => ?_; refine c_end ?_; refine xT ?_
  obtain ⟨o449, hO450, hK451⟩ := bd hF; clear hF
  refine c_cut (fun a' w' => ∃ (s453 : Unit) (G454 : GH), o449 = .go s453 ∧ G313.le G454 ∧ Env a' 117 [(0, .slice A1 p0.length c2), (8, .pointer A138), (10, .pointer A151), (60, .int .i64 (p0.length : Int)), (61, .int .i64 (i375 : Int))] ∧ Inv w0 G0 [] G454 [] w') ?_ ?_
  rotate_left
  · clear hE hI hO450; rintro a w ⟨s453, G454, rfl, hg455, hE, hI⟩; have hF := lrk_go hK451; clear hK451; refine xB ?_; refine xT ?_; refine c_reg ?_; refine run tt_ok 2 hE rfl fun a hE => ?_; refine c_end ?_; refine xT ?_
    cases hF; have hE := hE.setI (t := 61) rfl (w64_succ hlt380 (len_le h3))
    exact ⟨rest377.length, Nat.lt_succ_self _, i375 + 1, rest377, _, G454, rfl, hlt380, hd378, hO316, (hg318.trans hg455), hE.keep ⟨rfl, rfl, rfl, rfl, rfl, trivial⟩, hI⟩
  refine c_block ?_
  refine wp_loop_ghost (fun n' a' w' => ∃ (i458 : Nat) (rest460 : List ByteArray) (s448 : Unit) (G447 : GH), n' = rest460.length ∧ i458 ≤ p0.length ∧ p0.drop i458 = rest460 ∧ forL (law03_LatticeTurned.b1 k y134 i375 y147) i458 rest460 s448 = some o449 ∧ G313.le G447 ∧ Env a' 117 [(66, .int .i64 (i458 : Int)), (0, .slice A1 p0.length c2), (8, .pointer A138), (10, .pointer A151), (12, .int .i64 (i375 : Int)), (60, .int .i64 (p0.length : Int)), (61, .int .i64 (i375 : Int)), (65, .int .i64 (p0.length : Int))] ∧ Inv w0 G0 [] G447 [] w') _ ⟨0, _, _, G313, rfl, Nat.zero_le _, rfl, hO450, (GH.le.refl _), hE.keep ⟨rfl, rfl, rfl, rfl, rfl, rfl, rfl, rfl, trivial⟩, hI⟩ ?_
  clear hE hI hO450; rintro m457 a w ⟨i458, rest460, s448, G447, rfl, hi464, hd461, hO450, hg452, hE, hI⟩; rcases rest460 with _ | ⟨x459, rest460⟩
  · obtain rfl := forL_nil hO450; have hlt463 := drop_nil hd461 hi464; clear hd461; refine c_seq ?_; refine c_reg ?_; refine run tt_ok 1 hE rfl fun a hE => ?_; refine c_end ?_; refine xT ?_; refine c_seq ?_
    have hE := hE.tr (t := 67) rfl (decide_eq_false (by omega)); refine c_false hE rfl ?_; refine c_exit ?_; refine xTe ?_; refine xTe ?_; refine xBh ?_; refine xT ?_
    exact ⟨_, G447, rfl, hg452, hE.keep ⟨rfl, rfl, rfl, rfl, rfl, trivial⟩, hI⟩
  obtain ⟨stp456, hF, hO450⟩ := forL_step hO450; obtain ⟨hx462, hd461, hlt463⟩ := drop_cons hd461; unfold law03_LatticeTurned.b1 at hF; refine c_seq ?_; refine c_reg ?_; refine run tt_ok 1 hE rfl fun a hE => ?_
  refine c_end ?_; refine xT ?_; refine c_seq ?_; have hE := hE.tr (t := 67) rfl (decide_eq_true (by omega)); refine c_true hE rfl ?_; refine c_skip ?_; refine xT ?_; refine c_seq ?_; refine c_block ?_; refine c_seq ?_
  refine c_reg ?_; refine run tt_ok 2 hE rfl fun a hE => ?_; refine c_end ?_; refine xT ?_; refine c_seq ?_; obtain ⟨m496, hF, hR498⟩ := bd hF
  refine c_cut (fun a' w' => ∃ (G494 : GH), G447.le G494 ∧ Env a' 117 [(0, .slice A1 p0.length c2), (8, .pointer A138), (10, .pointer A151), (12, .int .i64 (i375 : Int)), (60, .int .i64 (p0.length : Int)), (61, .int .i64 (i375 : Int)), (65, .int .i64 (p0.length : Int)), (66, .int .i64 (i458 : Int)), (99, .bool m496)] ∧ Inv w0 G0 [] G494 [] w') ?_ ?_
  rotate_left
  · clear hE hI; rintro a w ⟨G494, hg497, hE, hI⟩; clear hF; have hF := hR498; clear hR498; refine xT ?_; refine c_if (b := m496) hE rfl (fun hb499 => ?_) (fun hb499 => ?_); rotate_left
    · replace hF := cf hb499 hF; refine c_skip ?_; refine xB ?_; refine xT ?_; refine c_reg ?_; refine run tt_ok 2 hE rfl fun a hE => ?_; refine c_end ?_; refine xT ?_; cases hF
      have hE := hE.setI (t := 66) rfl (w64_succ hlt463 (len_le h3))
      exact ⟨rest460.length, Nat.lt_succ_self _, i458 + 1, rest460, _, G494, rfl, hlt463, hd461, hO450, (hg452.trans hg497), hE.keep ⟨rfl, rfl, rfl, rfl, rfl, rfl, rfl, rfl, trivial⟩, hI⟩
    replace hF := ct hb499 hF; refine c_seq ?_; refine c_reg ?_; refine run tt_ok 1 hE rfl fun a hE => ?_; refine c_end ?_; refine xT ?_; refine c_ret ?_; refine xBr ?_; refine xTr ?_; refine xTr ?_; refine xBr ?_
    refine xTr ?_; refine xBr ?_; refine xTr ?_; refine xTr ?_; refine xBr ?_; refine xTr ?_; refine xTr ?_; cases hF; obtain rfl := nxt_ret hO450; have hF := lrk_ret hK451
    cases hF; obtain rfl := nxt_ret hO316; have hF := lrk_ret hK317; cases hF; refine r_ret (v := _) hE rfl ⟨_, _, _, rfl, hI.nil, rfl, rfl⟩
  refine c_reg ?_; refine run tt_ok 3 hE rfl fun a hE => ?_; obtain ⟨y500, hy501, hF⟩ := bd hF
  refine s_call0 cl_13 hI hE rfl rfl ((lattice_Lattice_Leq.ok k) _ _ _ _ hy501 _ _ _ hI.pass0 (h139.mono ((((hg145.trans hg149).trans hg157).trans hg318).trans hg452))) rfl ?_; clear hE hI
  rintro a w _ G503 _ ⟨rfl, rfl⟩ hg502 hI hE; refine run tt_ok 3 hE rfl fun a hE => ?_; obtain ⟨y504, hy505, hF⟩ := bd hF
  refine s_call0 cl_13 hI hE rfl rfl ((lattice_Lattice_Leq.ok k) _ _ _ _ hy505 _ _ _ hI.pass0 (h152.mono (((hg157.trans hg318).trans hg452).trans hg502))) rfl ?_; clear hE hI; rintro a w _ G507 _ ⟨rfl, rfl⟩ hg506 hI hE
  refine s_rt hI hE rfl (f_bne ub_4 rfl rfl) rfl fun a hE => ?_; refine run tt_ok 1 hE rfl fun a hE => ?_; rcases bool_or (!(y500 == y504)) with hb508 | hb508
  · replace hF := ct hb508 hF; have hE := hE.tr (t := 78) rfl hb508; clear hb508; refine run tt_ok 21 hE rfl fun a hE => ?_; refine c_end ?_; refine xT ?_; cases hF
    exact ⟨G507, (hg502.trans hg506), hE.keep ⟨rfl, rfl, rfl, rfl, rfl, rfl, rfl, rfl, rfl, trivial⟩, hI⟩
  replace hF := cf hb508 hF; have hE := hE.tr (t := 78) rfl hb508; clear hb508; refine run tt_ok 3 hE rfl fun a hE => ?_; obtain ⟨y509, hy510, hF⟩ := bd hF
  refine s_call0 cl_14 hI hE rfl rfl ((lattice_Lattice_Join.ok k) _ _ _ _ hy510 _ _ _ hI.pass0 (h139.mono ((((((hg145.trans hg149).trans hg157).trans hg318).trans hg452).trans hg502).trans hg506))) rfl ?_; clear hE hI
  rintro a w _ G512 _ ⟨rfl, rfl⟩ hg511 hI hE; refine run tt_ok 3 hE rfl fun a hE => ?_; obtain ⟨y513, hy514, hF⟩ := bd hF
  refine s_call0 cl_15 hI hE rfl rfl ((lattice_Lattice_Meet.ok k) _ _ _ _ hy514 _ _ _ hI.pass0 (h152.mono (((((hg157.trans hg318).trans hg452).trans hg502).trans hg506).trans hg511))) rfl ?_; clear hE hI
  rintro a w _ G516 _ ⟨rfl, rfl⟩ hg515 hI hE; refine run tt_ok 3 hE rfl fun a hE => ?_; rcases bool_or (!decide (y509 = y513)) with hb517 | hb517
  · replace hF := ct hb517 hF; have hE := hE.tr (t := 89) rfl hb517; clear hb517; refine run tt_ok 10 hE rfl fun a hE => ?_; refine c_end ?_; refine xT ?_; cases hF
    exact ⟨G516, (((hg502.trans hg506).trans hg511).trans hg515), hE.keep ⟨rfl, rfl, rfl, rfl, rfl, rfl, rfl, rfl, rfl, trivial⟩, hI⟩
  replace hF := cf hb517 hF; have hE := hE.tr (t := 89) rfl hb517; clear hb517; refine run tt_ok 3 hE rfl fun a hE => ?_; obtain ⟨y518, hy519, hF⟩ := bd hF
  refine s_call0 cl_15 hI hE rfl rfl ((lattice_Lattice_Meet.ok k) _ _ _ _ hy519 _ _ _ hI.pass0 (h139.mono ((((((((hg145.trans hg149).trans hg157).trans hg318).trans hg452).trans hg502).trans hg506).trans hg511).trans hg515))) rfl ?_; clear hE hI
  rintro a w _ G521 _ ⟨rfl, rfl⟩ hg520 hI hE; refine run tt_ok 3 hE rfl fun a hE => ?_; obtain ⟨y522, hy523, hF⟩ := bd hF
  refine s_call0 cl_14 hI hE rfl rfl ((lattice_Lattice_Join.ok k) _ _ _ _ hy523 _ _ _ hI.pass0 (h152.mono (((((((hg157.trans hg318).trans hg452).trans hg502).trans hg506).trans hg511).trans hg515).trans hg520))) rfl ?_; clear hE hI
  rintro a w _ G525 _ ⟨rfl, rfl⟩ hg524 hI hE; refine run tt_ok 2 hE rfl fun a hE => ?_; refine c_end ?_; refine xT ?_; cases hF
  exact ⟨G525, (((((hg502.trans hg506).trans hg511).trans hg515).trans hg520).trans hg524), hE.keep ⟨rfl, rfl, rfl, rfl, rfl, rfl, rfl, rfl, rfl, trivial⟩, hI⟩

theorem cl_20 : Callable Try.prog 20 := ⟨_, Try.func20, by kernel_rfl, by kernel_rfl⟩

def ref03_Find.C (s : (List ByteArray) → ByteArray → Option Int) : Prop := ∀ (p0 : List ByteArray) (p1 : ByteArray) (r : Int), s p0 p1 = some r → ∀ (w0 : World) (G0 : GH) (A1 : Option Addr) (c2 : Nat), Inv w0 G0 [] G0 [] w0 → (Sl G0 A1 c2 1 (p0.map D.str)) → Calls Try.prog 20 #[.slice A1 p0.length c2, .string p1] w0 (Ret w0 G0 [] fun G' L' v => L' = [] ∧ v = .int .i64 r)

theorem ref03_Find.ok (k : Nat) : ref03_Find.C (ref03_Find k) := by
  intro p0 p1 r hF w0 G0 A1 c2 hI h3
  unfold ref03_Find at hF
  refine calls_of_wp Try.func20 rfl ?_
  have hE : Env _ 19 [(0, .slice A1 p0.length c2), (1, .string p1)] := Env.start ⟨[.slice A1 p0.length c2, .string p1]⟩ 17
  refine c_seq ?_; refine c_reg ?_; refine run tt_ok 1 hE rfl fun a hE => ?_; refine c_end ?_; refine xT ?_; refine c_seq ?_; refine c_seq ?_; refine c_reg ?_; refine run tt_ok 1 hE rfl fun a hE => ?_; refine c_end ?_
  refine xT ?_; obtain ⟨o17, hO18, hK19⟩ := bd hF; clear hF; refine c_cut (fun a' w' => ∃ (s21 : Unit) (G22 : GH), o17 = .go s21 ∧ G0.le G22 ∧ Env a' 19 [] ∧ Inv w0 G0 [] G22 [] w') ?_ ?_; rotate_left
  · clear hE hI hO18; rintro a w ⟨s21, G22, rfl, hg23, hE, hI⟩; have hF := lrk_go hK19; clear hK19; refine xT ?_; refine c_seq ?_; refine c_reg ?_; refine run tt_ok 1 hE rfl fun a hE => ?_; refine c_end ?_; refine xT ?_
    refine c_ret ?_; cases hF; refine r_ret (v := _) hE rfl ⟨_, _, _, rfl, hI.nil, rfl, rfl⟩
  refine c_block ?_
  refine wp_loop_ghost (fun n' a' w' => ∃ (i26 : Nat) (rest28 : List ByteArray) (s16 : Unit) (G15 : GH), n' = rest28.length ∧ i26 ≤ p0.length ∧ p0.drop i26 = rest28 ∧ forL (ref03_Find.b0 k p1) i26 rest28 s16 = some o17 ∧ G0.le G15 ∧ Env a' 19 [(5, .int .i64 (i26 : Int)), (0, .slice A1 p0.length c2), (1, .string p1)] ∧ Inv w0 G0 [] G15 [] w') _ ⟨0, _, _, G0, rfl, Nat.zero_le _, rfl, hO18, (GH.le.refl _), hE.keep ⟨rfl, rfl, rfl, trivial⟩, hI⟩ ?_
  clear hE hI hO18; rintro m25 a w ⟨i26, rest28, s16, G15, rfl, hi32, hd29, hO18, hg20, hE, hI⟩; rcases rest28 with _ | ⟨x27, rest28⟩
  · obtain rfl := forL_nil hO18; have hlt31 := drop_nil hd29 hi32; clear hd29; refine c_seq ?_; refine c_seq ?_; refine c_reg ?_; refine run tt_ok 4 hE rfl fun a hE => ?_; refine c_end ?_; refine xT ?_
    have hE := hE.tr (t := 9) rfl (decide_eq_false (by omega)); refine c_false hE rfl ?_; refine c_exit ?_; refine xTe ?_; refine xTe ?_; refine xBh ?_; refine xT ?_; exact ⟨_, G15, rfl, hg20, hE.keep trivial, hI⟩
  obtain ⟨stp24, hF, hO18⟩ := forL_step hO18; obtain ⟨hx30, hd29, hlt31⟩ := drop_cons hd29; unfold ref03_Find.b0 at hF; refine c_seq ?_; refine c_seq ?_; refine c_reg ?_; refine run tt_ok 4 hE rfl fun a hE => ?_
  refine c_end ?_; refine xT ?_; have hE := hE.tr (t := 9) rfl (decide_eq_true (by omega)); refine c_true hE rfl ?_; refine c_skip ?_; refine xT ?_; refine c_seq ?_; refine c_block ?_; refine c_seq ?_; refine c_reg ?_
  refine run tt_ok 2 hE rfl fun a hE => ?_; obtain ⟨b34, o35, cs, hb38, hR37, hA36⟩ := sl_at (h3.mono hg20) (Int.natCast_nonneg _) (natIdx hx30); obtain rfl := rep_str.1 hR37
  refine s_rt hI hE rfl (f_idx tt_ok hb38 rfl rfl rfl) rfl fun a hE => ?_; refine s_rt hI hE rfl (f_loadG tt_ok hA36 0 rfl rfl rfl rfl) rfl fun a hE => ?_; refine run tt_ok 2 hE rfl fun a hE => ?_; refine c_end ?_
  refine xT ?_; refine c_if (b := decide (x27 = p1)) hE rfl (fun hb39 => ?_) (fun hb39 => ?_)
  · replace hF := ct hb39 hF; refine c_seq ?_; refine c_reg ?_; refine run tt_ok 2 hE rfl fun a hE => ?_; refine c_end ?_; refine xT ?_; refine c_ret ?_; refine xBr ?_; refine xTr ?_; refine xTr ?_; refine xBr ?_
    refine xTr ?_; refine xTr ?_; cases hF; obtain rfl := nxt_ret hO18; have hF := lrk_ret hK19; cases hF; refine r_ret (v := _) hE rfl ⟨_, _, _, rfl, hI.nil, rfl, rfl⟩
  replace hF := cf hb39 hF; refine c_skip ?_; refine xB ?_; refine xT ?_; refine c_reg ?_; refine run tt_ok 3 hE rfl fun a hE => ?_; refine c_end ?_; refine xT ?_; cases hF
  have hE := hE.setI (t := 5) rfl (w64_succ hlt31 (len_le h3)); exact ⟨rest28.length, Nat.lt_succ_self _, i26 + 1, rest28, _, G15, rfl, hlt31, hd29, hO18, hg20, hE.keep ⟨rfl, rfl, rfl, trivial⟩, hI⟩
end Go.Proofs.Ytliaopbgkcdibaa
