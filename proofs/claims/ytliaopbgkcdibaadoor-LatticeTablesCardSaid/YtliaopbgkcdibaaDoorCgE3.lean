/- The contracts: what the machine does at a call is what the plain function says. Written by mk.py. -/
import Derived.Test.YtliaopbgkcdibaaDoorCgE2
set_option linter.unusedVariables false
set_option linter.unusedSimpArgs false
set_option maxRecDepth 100000
namespace Go.Proofs.YtliaopbgkcdibaaDoor
open Go.RowKit
theorem cl_12 : Callable Tryd.prog 12 := ⟨_, Tryd.func12, by kernel_rfl, by kernel_rfl⟩

def ref03_Lattice_Join.C (s : (Option Tref03_Lattice) → Int → Int → Option Int) : Prop := ∀ (p0 : Option Tref03_Lattice) (p1 : Int) (p2 : Int) (r : Int), s p0 p1 p2 = some r → ∀ (w0 : World) (G0 : GH) (A1 : Option Addr), Inv w0 G0 [] G0 [] w0 → (Pt G0 A1 60 Tref03_Lattice.d p0) → Calls Tryd.prog 12 #[.pointer A1, .int .i64 p1, .int .i64 p2] w0 (Ret w0 G0 [] fun G' L' v => L' = [] ∧ v = .int .i64 r)

theorem ref03_Lattice_Join.ok (k : Nat) : ref03_Lattice_Join.C (ref03_Lattice_Join k) := by
  intro p0 p1 p2 r hF w0 G0 A1 hI h2
  unfold ref03_Lattice_Join at hF
  refine calls_of_wp Tryd.func12 rfl ?_
  have hE : Env _ 59 [(0, .pointer A1), (1, .int .i64 p1), (2, .int .i64 p2)] := Env.start ⟨[.pointer A1, .int .i64 p1, .int .i64 p2]⟩ 56
  refine c_seq ?_; refine c_reg ?_; refine run tt_ok 1 hE rfl fun a hE => ?_; refine c_end ?_; refine xT ?_; refine c_seq ?_; refine c_seq ?_; refine c_reg ?_; refine run tt_ok 1 hE rfl fun a hE => ?_; refine c_end ?_
  refine xT ?_; rcases (h2).cases with ⟨hp5, rfl⟩ | ⟨y3, b4, cs, hp5, rfl, hR6, hA7⟩
  · cases op_n hp5 hF
  replace hF := op_s hp5 hF; obtain ⟨A8, c9, A11, c12, rfl, h10, h13⟩ := Tref03_Lattice.inv.1 hR6; obtain ⟨o624, hO625, hK626⟩ := bd hF; clear hF
  refine c_cut (fun a' w' => ∃ (s628 : Unit) (G629 : GH), o624 = .go s628 ∧ G0.le G629 ∧ Env a' 59 [] ∧ Inv w0 G0 [] G629 [] w') ?_ ?_; rotate_left
  · clear hE hI hO625; rintro a w ⟨s628, G629, rfl, hg630, hE, hI⟩; have hF := lrk_go hK626; clear hK626; refine xT ?_; refine c_seq ?_; refine c_reg ?_; refine run tt_ok 1 hE rfl fun a hE => ?_; refine c_end ?_; refine xT ?_
    refine c_ret ?_; cases hF; refine r_ret (v := _) hE rfl ⟨_, _, _, rfl, hI.nil, rfl, rfl⟩
  refine c_block ?_
  refine wp_loop_ghost (fun n' a' w' => ∃ (i633 : Nat) (rest635 : List ByteArray) (s623 : Unit) (G622 : GH), n' = rest635.length ∧ i633 ≤ y3.Names.length ∧ y3.Names.drop i633 = rest635 ∧ forL (ref03_Lattice_Join.b0 k p0 p1 p2 y3) i633 rest635 s623 = some o624 ∧ G0.le G622 ∧ Env a' 59 [(7, .int .i64 (i633 : Int)), (0, .pointer (some ⟨b4, 0, none⟩)), (1, .int .i64 p1), (2, .int .i64 p2)] ∧ Inv w0 G0 [] G622 [] w') _ ⟨0, _, _, G0, rfl, Nat.zero_le _, rfl, hO625, (GH.le.refl _), hE.keep ⟨rfl, rfl, rfl, rfl, trivial⟩, hI⟩ ?_
  clear hE hI hO625; rintro m632 a w ⟨i633, rest635, s623, G622, rfl, hi639, hd636, hO625, hg627, hE, hI⟩; rcases rest635 with _ | ⟨x634, rest635⟩
  · obtain rfl := forL_nil hO625; have hlt638 := drop_nil hd636 hi639; clear hd636; refine c_seq ?_; refine c_seq ?_; refine c_reg ?_; refine run tt_ok 4 hE rfl fun a hE => ?_
    refine s_rt hI hE rfl (f_loadG tt_ok (hA7.mono hg627) 0 rfl rfl rfl rfl) rfl fun a hE => ?_; refine run tt_ok 2 hE rfl fun a hE => ?_; refine c_end ?_; refine xT ?_
    have hE := hE.tr (t := 16) rfl (decide_eq_false (by omega)); refine c_false hE rfl ?_; refine c_exit ?_; refine xTe ?_; refine xTe ?_; refine xBh ?_; refine xT ?_; exact ⟨_, G622, rfl, hg627, hE.keep trivial, hI⟩
  obtain ⟨stp631, hF, hO625⟩ := forL_step hO625; obtain ⟨hx637, hd636, hlt638⟩ := drop_cons hd636; unfold ref03_Lattice_Join.b0 at hF; refine c_seq ?_; refine c_seq ?_; refine c_reg ?_
  refine run tt_ok 4 hE rfl fun a hE => ?_; refine s_rt hI hE rfl (f_loadG tt_ok (hA7.mono hg627) 0 rfl rfl rfl rfl) rfl fun a hE => ?_; refine run tt_ok 2 hE rfl fun a hE => ?_; refine c_end ?_; refine xT ?_
  have hE := hE.tr (t := 16) rfl (decide_eq_true (by omega)); refine c_true hE rfl ?_; refine c_skip ?_; refine xT ?_; refine c_seq ?_
  refine c_cut (fun a' w' => ∃ (m943 : Unit), ref03_Lattice_Join.j1 k m943 = some stp631 ∧ ∃ (G942 : GH), G622.le G942 ∧ Env a' 59 [(0, .pointer (some ⟨b4, 0, none⟩)), (1, .int .i64 p1), (2, .int .i64 p2), (7, .int .i64 (i633 : Int))] ∧ Inv w0 G0 [] G942 [] w') ?_ ?_
  rotate_left
  · clear hE hI hF; rintro a w ⟨m943, hF, G942, hg944, hE, hI⟩; unfold ref03_Lattice_Join.j1 at hF; refine xT ?_; refine c_reg ?_; refine run tt_ok 3 hE rfl fun a hE => ?_; refine c_end ?_; refine xT ?_; cases hF
    have hE := hE.setI (t := 7) rfl (w64_succ hlt638 (len_le h10))
    exact ⟨rest635.length, Nat.lt_succ_self _, i633 + 1, rest635, _, G942, rfl, hlt638, hd636, hO625, (hg627.trans hg944), hE.keep ⟨rfl, rfl, rfl, rfl, trivial⟩, hI⟩
  refine c_block ?_; refine c_seq ?_; refine c_seq ?_; obtain ⟨m958, hF, hR960⟩ := bd hF
  refine c_cut (fun a' w' => ∃ (G956 : GH), G622.le G956 ∧ Env a' 59 [(0, .pointer (some ⟨b4, 0, none⟩)), (1, .int .i64 p1), (2, .int .i64 p2), (7, .int .i64 (i633 : Int)), (30, .bool m958)] ∧ Inv w0 G0 [] G956 [] w') ?_ ?_
  · refine c_reg ?_; refine run tt_ok 3 hE rfl fun a hE => ?_; obtain ⟨y1235, hy1236, hF⟩ := bd hF
    refine s_call0 cl_10 hI hE rfl rfl ((ref03_Lattice_Leq.ok k) _ _ _ _ hy1236 _ _ _ hI.pass0 (h2.mono hg627)) rfl ?_; clear hE hI; rintro a w _ G1238 _ ⟨rfl, rfl⟩ hg1237 hI hE; refine run tt_ok 2 hE rfl fun a hE => ?_
    rcases bool_or (!y1235) with hb1239 | hb1239
    · replace hF := ct hb1239 hF; have hE := hE.tr (t := 24) rfl hb1239; clear hb1239; refine run tt_ok 6 hE rfl fun a hE => ?_; refine c_end ?_; refine xT ?_; cases hF
      exact ⟨G1238, hg1237, hE.keep ⟨rfl, rfl, rfl, rfl, rfl, trivial⟩, hI⟩
    replace hF := cf hb1239 hF; have hE := hE.tr (t := 24) rfl hb1239; clear hb1239; refine run tt_ok 3 hE rfl fun a hE => ?_; obtain ⟨y1240, hy1241, hF⟩ := bd hF
    refine s_call0 cl_10 hI hE rfl rfl ((ref03_Lattice_Leq.ok k) _ _ _ _ hy1241 _ _ _ hI.pass0 (h2.mono (hg627.trans hg1237))) rfl ?_; clear hE hI; rintro a w _ G1243 _ ⟨rfl, rfl⟩ hg1242 hI hE
    refine run tt_ok 2 hE rfl fun a hE => ?_; refine c_end ?_; refine xT ?_; cases hF; exact ⟨G1243, (hg1237.trans hg1242), hE.keep ⟨rfl, rfl, rfl, rfl, rfl, trivial⟩, hI⟩
  clear hE hI; rintro a w ⟨G956, hg959, hE, hI⟩; clear hF; have hF := hR960; clear hR960; refine xT ?_; refine c_if (b := m958) hE rfl (fun hb1234 => ?_) (fun hb1234 => ?_)
  · replace hF := ct hb1234 hF; refine c_exit ?_; refine xTe ?_; refine xBh ?_; refine xT ?_; exact ⟨_, hF, G956, hg959, hE.keep ⟨rfl, rfl, rfl, rfl, trivial⟩, hI⟩
  replace hF := cf hb1234 hF; refine c_skip ?_; refine xT ?_; refine c_seq ?_; refine c_reg ?_; refine run tt_ok 1 hE rfl fun a hE => ?_; refine c_end ?_; refine xT ?_; refine c_seq ?_; refine c_seq ?_; refine c_reg ?_
  refine run tt_ok 1 hE rfl fun a hE => ?_; refine c_end ?_; refine xT ?_; obtain ⟨o1133, hO1134, hK1135⟩ := bd hF; clear hF
  refine c_cut (fun a' w' => ∃ (s1137 : Bool) (G1138 : GH), o1133 = .go s1137 ∧ G956.le G1138 ∧ Env a' 59 [(0, .pointer (some ⟨b4, 0, none⟩)), (1, .int .i64 p1), (2, .int .i64 p2), (7, .int .i64 (i633 : Int)), (8, .bool s1137)] ∧ Inv w0 G0 [] G1138 [] w') ?_ ?_
  rotate_left
  · clear hE hI hO1134; rintro a w ⟨s1137, G1138, rfl, hg1140, hE, hI⟩; have hF := lrk_go hK1135; clear hK1135; refine xT ?_; refine c_seq ?_; refine c_reg ?_; refine run tt_ok 1 hE rfl fun a hE => ?_; refine c_end ?_
    refine xT ?_; refine c_if (b := s1137) hE rfl (fun hb1141 => ?_) (fun hb1141 => ?_); rotate_left
    · replace hF := cf hb1141 hF; refine c_skip ?_; refine xB ?_; refine xT ?_; exact ⟨_, hF, G1138, (hg959.trans hg1140), hE.keep ⟨rfl, rfl, rfl, rfl, trivial⟩, hI⟩
    replace hF := ct hb1141 hF; refine c_seq ?_; refine c_reg ?_; refine run tt_ok 2 hE rfl fun a hE => ?_; refine c_end ?_; refine xT ?_; refine c_ret ?_; refine xBr ?_; refine xTr ?_; refine xTr ?_; refine xTr ?_
    refine xBr ?_; refine xTr ?_; refine xTr ?_; cases hF; obtain rfl := nxt_ret hO625; have hF := lrk_ret hK626; cases hF; refine r_ret (v := _) hE rfl ⟨_, _, _, rfl, hI.nil, rfl, rfl⟩
  refine c_block ?_
  refine wp_loop_ghost (fun n' a' w' => ∃ (i1144 : Nat) (rest1146 : List ByteArray) (s1132 : Bool) (G1130 : GH), n' = rest1146.length ∧ i1144 ≤ y3.Names.length ∧ y3.Names.drop i1144 = rest1146 ∧ forL (ref03_Lattice_Join.b2 k p0 p1 p2 i633) i1144 rest1146 s1132 = some o1133 ∧ G956.le G1130 ∧ Env a' 59 [(9, .int .i64 (i1144 : Int)), (0, .pointer (some ⟨b4, 0, none⟩)), (1, .int .i64 p1), (2, .int .i64 p2), (7, .int .i64 (i633 : Int)), (8, .bool s1132)] ∧ Inv w0 G0 [] G1130 [] w') _ ⟨0, _, _, G956, rfl, Nat.zero_le _, rfl, hO1134, (GH.le.refl _), hE.keep ⟨rfl, rfl, rfl, rfl, rfl, rfl, trivial⟩, hI⟩ ?_
  clear hE hI hO1134; rintro m1143 a w ⟨i1144, rest1146, s1132, G1130, rfl, hi1150, hd1147, hO1134, hg1136, hE, hI⟩; rcases rest1146 with _ | ⟨x1145, rest1146⟩
  · obtain rfl := forL_nil hO1134; have hlt1149 := drop_nil hd1147 hi1150; clear hd1147; refine c_seq ?_; refine c_seq ?_; refine c_reg ?_; refine run tt_ok 4 hE rfl fun a hE => ?_
    refine s_rt hI hE rfl (f_loadG tt_ok (hA7.mono ((hg627.trans hg959).trans hg1136)) 0 rfl rfl rfl rfl) rfl fun a hE => ?_; refine run tt_ok 2 hE rfl fun a hE => ?_; refine c_end ?_; refine xT ?_
    have hE := hE.tr (t := 37) rfl (decide_eq_false (by omega)); refine c_false hE rfl ?_; refine c_exit ?_; refine xTe ?_; refine xTe ?_; refine xBh ?_; refine xT ?_
    exact ⟨_, G1130, rfl, hg1136, hE.keep ⟨rfl, rfl, rfl, rfl, rfl, trivial⟩, hI⟩
  obtain ⟨stp1142, hF, hO1134⟩ := forL_step hO1134; obtain ⟨hx1148, hd1147, hlt1149⟩ := drop_cons hd1147; unfold ref03_Lattice_Join.b2 at hF; refine c_seq ?_; refine c_seq ?_; refine c_reg ?_
  refine run tt_ok 4 hE rfl fun a hE => ?_; refine s_rt hI hE rfl (f_loadG tt_ok (hA7.mono ((hg627.trans hg959).trans hg1136)) 0 rfl rfl rfl rfl) rfl fun a hE => ?_; refine run tt_ok 2 hE rfl fun a hE => ?_; refine c_end ?_
  refine xT ?_; have hE := hE.tr (t := 37) rfl (decide_eq_true (by omega)); refine c_true hE rfl ?_; refine c_skip ?_; refine xT ?_; refine c_seq ?_; obtain ⟨m1192, hF, hR1194⟩ := bd hF
  refine c_cut (fun a' w' => ∃ (G1190 : GH), G1130.le G1190 ∧ Env a' 59 [(0, .pointer (some ⟨b4, 0, none⟩)), (1, .int .i64 p1), (2, .int .i64 p2), (7, .int .i64 (i633 : Int)), (8, .bool m1192), (9, .int .i64 (i1144 : Int))] ∧ Inv w0 G0 [] G1190 [] w') ?_ ?_
  rotate_left
  · clear hE hI; rintro a w ⟨G1190, hg1193, hE, hI⟩; clear hF; have hF := hR1194; clear hR1194; refine xT ?_; refine c_reg ?_; refine run tt_ok 3 hE rfl fun a hE => ?_; refine c_end ?_; refine xT ?_; cases hF
    have hE := hE.setI (t := 9) rfl (w64_succ hlt1149 (len_le h10))
    exact ⟨rest1146.length, Nat.lt_succ_self _, i1144 + 1, rest1146, _, G1190, rfl, hlt1149, hd1147, hO1134, (hg1136.trans hg1193), hE.keep ⟨rfl, rfl, rfl, rfl, rfl, rfl, trivial⟩, hI⟩
  refine c_block ?_; refine c_seq ?_; obtain ⟨m1212, hF, hR1214⟩ := bd hF
  refine c_cut (fun a' w' => ∃ (G1210 : GH), G1130.le G1210 ∧ Env a' 59 [(0, .pointer (some ⟨b4, 0, none⟩)), (1, .int .i64 p1), (2, .int .i64 p2), (7, .int .i64 (i633 : Int)), (8, .bool s1132), (9, .int .i64 (i1144 : Int)), (56, .bool m1212)] ∧ Inv w0 G0 [] G1210 [] w') ?_ ?_
  rotate_left
  · clear hE hI; rintro a w ⟨G1210, hg1213, hE, hI⟩; clear hF; have hF := hR1214; clear hR1214; refine xT ?_; refine c_if (b := m1212) hE rfl (fun hb1215 => ?_) (fun hb1215 => ?_); rotate_left
    · replace hF := cf hb1215 hF; refine c_skip ?_; refine xB ?_; refine xT ?_; cases hF; exact ⟨G1210, hg1213, hE.keep ⟨rfl, rfl, rfl, rfl, rfl, rfl, trivial⟩, hI⟩
    replace hF := ct hb1215 hF; refine c_reg ?_; refine run tt_ok 1 hE rfl fun a hE => ?_; refine c_end ?_; refine xB ?_; refine xT ?_; cases hF; exact ⟨G1210, hg1213, hE.keep ⟨rfl, rfl, rfl, rfl, rfl, rfl, trivial⟩, hI⟩
  refine c_reg ?_; refine run tt_ok 3 hE rfl fun a hE => ?_; obtain ⟨y1216, hy1217, hF⟩ := bd hF
  refine s_call0 cl_10 hI hE rfl rfl ((ref03_Lattice_Leq.ok k) _ _ _ _ hy1217 _ _ _ hI.pass0 (h2.mono ((hg627.trans hg959).trans hg1136))) rfl ?_; clear hE hI; rintro a w _ G1219 _ ⟨rfl, rfl⟩ hg1218 hI hE
  refine run tt_ok 1 hE rfl fun a hE => ?_; rcases bool_or y1216 with hb1220 | hb1220; rotate_left
  · replace hF := cf hb1220 hF; have hE := hE.tr (t := 44) rfl hb1220; clear hb1220; refine run tt_ok 12 hE rfl fun a hE => ?_; refine c_end ?_; refine xT ?_; cases hF
    exact ⟨G1219, hg1218, hE.keep ⟨rfl, rfl, rfl, rfl, rfl, rfl, rfl, trivial⟩, hI⟩
  replace hF := ct hb1220 hF; have hE := hE.tr (t := 44) rfl hb1220; clear hb1220; refine run tt_ok 3 hE rfl fun a hE => ?_; obtain ⟨y1221, hy1222, hF⟩ := bd hF
  refine s_call0 cl_10 hI hE rfl rfl ((ref03_Lattice_Leq.ok k) _ _ _ _ hy1222 _ _ _ hI.pass0 (h2.mono (((hg627.trans hg959).trans hg1136).trans hg1218))) rfl ?_; clear hE hI; rintro a w _ G1224 _ ⟨rfl, rfl⟩ hg1223 hI hE
  refine run tt_ok 2 hE rfl fun a hE => ?_; rcases bool_or y1221 with hb1225 | hb1225; rotate_left
  · replace hF := cf hb1225 hF; have hE := hE.tr (t := 50) rfl hb1225; clear hb1225; refine run tt_ok 6 hE rfl fun a hE => ?_; refine c_end ?_; refine xT ?_; cases hF
    exact ⟨G1224, (hg1218.trans hg1223), hE.keep ⟨rfl, rfl, rfl, rfl, rfl, rfl, rfl, trivial⟩, hI⟩
  replace hF := ct hb1225 hF; have hE := hE.tr (t := 50) rfl hb1225; clear hb1225; refine run tt_ok 3 hE rfl fun a hE => ?_; obtain ⟨y1226, hy1227, hF⟩ := bd hF
  refine s_call0 cl_10 hI hE rfl rfl ((ref03_Lattice_Leq.ok k) _ _ _ _ hy1227 _ _ _ hI.pass0 (h2.mono ((((hg627.trans hg959).trans hg1136).trans hg1218).trans hg1223))) rfl ?_; clear hE hI
  rintro a w _ G1229 _ ⟨rfl, rfl⟩ hg1228 hI hE; refine run tt_ok 2 hE rfl fun a hE => ?_; refine c_end ?_; refine xT ?_; cases hF
  exact ⟨G1229, ((hg1218.trans hg1223).trans hg1228), hE.keep ⟨rfl, rfl, rfl, rfl, rfl, rfl, rfl, trivial⟩, hI⟩

theorem cl_14 : Callable Tryd.prog 14 := ⟨_, Tryd.func14, by kernel_rfl, by kernel_rfl⟩

def ref03_Lattice_Meet.C (s : (Option Tref03_Lattice) → Int → Int → Option Int) : Prop := ∀ (p0 : Option Tref03_Lattice) (p1 : Int) (p2 : Int) (r : Int), s p0 p1 p2 = some r → ∀ (w0 : World) (G0 : GH) (A1 : Option Addr), Inv w0 G0 [] G0 [] w0 → (Pt G0 A1 60 Tref03_Lattice.d p0) → Calls Tryd.prog 14 #[.pointer A1, .int .i64 p1, .int .i64 p2] w0 (Ret w0 G0 [] fun G' L' v => L' = [] ∧ v = .int .i64 r)

theorem ref03_Lattice_Meet.ok (k : Nat) : ref03_Lattice_Meet.C (ref03_Lattice_Meet k) := by
  intro p0 p1 p2 r hF w0 G0 A1 hI h2
  unfold ref03_Lattice_Meet at hF
  refine calls_of_wp Tryd.func14 rfl ?_
  have hE : Env _ 59 [(0, .pointer A1), (1, .int .i64 p1), (2, .int .i64 p2)] := Env.start ⟨[.pointer A1, .int .i64 p1, .int .i64 p2]⟩ 56
  refine c_seq ?_; refine c_reg ?_; refine run tt_ok 1 hE rfl fun a hE => ?_; refine c_end ?_; refine xT ?_; refine c_seq ?_; refine c_seq ?_; refine c_reg ?_; refine run tt_ok 1 hE rfl fun a hE => ?_; refine c_end ?_
  refine xT ?_; rcases (h2).cases with ⟨hp5, rfl⟩ | ⟨y3, b4, cs, hp5, rfl, hR6, hA7⟩
  · cases op_n hp5 hF
  replace hF := op_s hp5 hF; obtain ⟨A8, c9, A11, c12, rfl, h10, h13⟩ := Tref03_Lattice.inv.1 hR6; obtain ⟨o624, hO625, hK626⟩ := bd hF; clear hF
  refine c_cut (fun a' w' => ∃ (s628 : Unit) (G629 : GH), o624 = .go s628 ∧ G0.le G629 ∧ Env a' 59 [] ∧ Inv w0 G0 [] G629 [] w') ?_ ?_; rotate_left
  · clear hE hI hO625; rintro a w ⟨s628, G629, rfl, hg630, hE, hI⟩; have hF := lrk_go hK626; clear hK626; refine xT ?_; refine c_seq ?_; refine c_reg ?_; refine run tt_ok 1 hE rfl fun a hE => ?_; refine c_end ?_; refine xT ?_
    refine c_ret ?_; cases hF; refine r_ret (v := _) hE rfl ⟨_, _, _, rfl, hI.nil, rfl, rfl⟩
  refine c_block ?_
  refine wp_loop_ghost (fun n' a' w' => ∃ (i633 : Nat) (rest635 : List ByteArray) (s623 : Unit) (G622 : GH), n' = rest635.length ∧ i633 ≤ y3.Names.length ∧ y3.Names.drop i633 = rest635 ∧ forL (ref03_Lattice_Meet.b0 k p0 p1 p2 y3) i633 rest635 s623 = some o624 ∧ G0.le G622 ∧ Env a' 59 [(7, .int .i64 (i633 : Int)), (0, .pointer (some ⟨b4, 0, none⟩)), (1, .int .i64 p1), (2, .int .i64 p2)] ∧ Inv w0 G0 [] G622 [] w') _ ⟨0, _, _, G0, rfl, Nat.zero_le _, rfl, hO625, (GH.le.refl _), hE.keep ⟨rfl, rfl, rfl, rfl, trivial⟩, hI⟩ ?_
  clear hE hI hO625; rintro m632 a w ⟨i633, rest635, s623, G622, rfl, hi639, hd636, hO625, hg627, hE, hI⟩; rcases rest635 with _ | ⟨x634, rest635⟩
  · obtain rfl := forL_nil hO625; have hlt638 := drop_nil hd636 hi639; clear hd636; refine c_seq ?_; refine c_seq ?_; refine c_reg ?_; refine run tt_ok 4 hE rfl fun a hE => ?_
    refine s_rt hI hE rfl (f_loadG tt_ok (hA7.mono hg627) 0 rfl rfl rfl rfl) rfl fun a hE => ?_; refine run tt_ok 2 hE rfl fun a hE => ?_; refine c_end ?_; refine xT ?_
    have hE := hE.tr (t := 16) rfl (decide_eq_false (by omega)); refine c_false hE rfl ?_; refine c_exit ?_; refine xTe ?_; refine xTe ?_; refine xBh ?_; refine xT ?_; exact ⟨_, G622, rfl, hg627, hE.keep trivial, hI⟩
  obtain ⟨stp631, hF, hO625⟩ := forL_step hO625; obtain ⟨hx637, hd636, hlt638⟩ := drop_cons hd636; unfold ref03_Lattice_Meet.b0 at hF; refine c_seq ?_; refine c_seq ?_; refine c_reg ?_
  refine run tt_ok 4 hE rfl fun a hE => ?_; refine s_rt hI hE rfl (f_loadG tt_ok (hA7.mono hg627) 0 rfl rfl rfl rfl) rfl fun a hE => ?_; refine run tt_ok 2 hE rfl fun a hE => ?_; refine c_end ?_; refine xT ?_
  have hE := hE.tr (t := 16) rfl (decide_eq_true (by omega)); refine c_true hE rfl ?_; refine c_skip ?_; refine xT ?_; refine c_seq ?_
  refine c_cut (fun a' w' => ∃ (m943 : Unit), ref03_Lattice_Meet.j1 k m943 = some stp631 ∧ ∃ (G942 : GH), G622.le G942 ∧ Env a' 59 [(0, .pointer (some ⟨b4, 0, none⟩)), (1, .int .i64 p1), (2, .int .i64 p2), (7, .int .i64 (i633 : Int))] ∧ Inv w0 G0 [] G942 [] w') ?_ ?_
  rotate_left
  · clear hE hI hF; rintro a w ⟨m943, hF, G942, hg944, hE, hI⟩; unfold ref03_Lattice_Meet.j1 at hF; refine xT ?_; refine c_reg ?_; refine run tt_ok 3 hE rfl fun a hE => ?_; refine c_end ?_; refine xT ?_; cases hF
    have hE := hE.setI (t := 7) rfl (w64_succ hlt638 (len_le h10))
    exact ⟨rest635.length, Nat.lt_succ_self _, i633 + 1, rest635, _, G942, rfl, hlt638, hd636, hO625, (hg627.trans hg944), hE.keep ⟨rfl, rfl, rfl, rfl, trivial⟩, hI⟩
  refine c_block ?_; refine c_seq ?_; refine c_seq ?_; obtain ⟨m958, hF, hR960⟩ := bd hF
  refine c_cut (fun a' w' => ∃ (G956 : GH), G622.le G956 ∧ Env a' 59 [(0, .pointer (some ⟨b4, 0, none⟩)), (1, .int .i64 p1), (2, .int .i64 p2), (7, .int .i64 (i633 : Int)), (30, .bool m958)] ∧ Inv w0 G0 [] G956 [] w') ?_ ?_
  · refine c_reg ?_; refine run tt_ok 3 hE rfl fun a hE => ?_; obtain ⟨y1235, hy1236, hF⟩ := bd hF
    refine s_call0 cl_10 hI hE rfl rfl ((ref03_Lattice_Leq.ok k) _ _ _ _ hy1236 _ _ _ hI.pass0 (h2.mono hg627)) rfl ?_; clear hE hI; rintro a w _ G1238 _ ⟨rfl, rfl⟩ hg1237 hI hE; refine run tt_ok 2 hE rfl fun a hE => ?_
    rcases bool_or (!y1235) with hb1239 | hb1239
    · replace hF := ct hb1239 hF; have hE := hE.tr (t := 24) rfl hb1239; clear hb1239; refine run tt_ok 6 hE rfl fun a hE => ?_; refine c_end ?_; refine xT ?_; cases hF
      exact ⟨G1238, hg1237, hE.keep ⟨rfl, rfl, rfl, rfl, rfl, trivial⟩, hI⟩
    replace hF := cf hb1239 hF; have hE := hE.tr (t := 24) rfl hb1239; clear hb1239; refine run tt_ok 3 hE rfl fun a hE => ?_; obtain ⟨y1240, hy1241, hF⟩ := bd hF
    refine s_call0 cl_10 hI hE rfl rfl ((ref03_Lattice_Leq.ok k) _ _ _ _ hy1241 _ _ _ hI.pass0 (h2.mono (hg627.trans hg1237))) rfl ?_; clear hE hI; rintro a w _ G1243 _ ⟨rfl, rfl⟩ hg1242 hI hE
    refine run tt_ok 2 hE rfl fun a hE => ?_; refine c_end ?_; refine xT ?_; cases hF; exact ⟨G1243, (hg1237.trans hg1242), hE.keep ⟨rfl, rfl, rfl, rfl, rfl, trivial⟩, hI⟩
  clear hE hI; rintro a w ⟨G956, hg959, hE, hI⟩; clear hF; have hF := hR960; clear hR960; refine xT ?_; refine c_if (b := m958) hE rfl (fun hb1234 => ?_) (fun hb1234 => ?_)
  · replace hF := ct hb1234 hF; refine c_exit ?_; refine xTe ?_; refine xBh ?_; refine xT ?_; exact ⟨_, hF, G956, hg959, hE.keep ⟨rfl, rfl, rfl, rfl, trivial⟩, hI⟩
  replace hF := cf hb1234 hF; refine c_skip ?_; refine xT ?_; refine c_seq ?_; refine c_reg ?_; refine run tt_ok 1 hE rfl fun a hE => ?_; refine c_end ?_; refine xT ?_; refine c_seq ?_; refine c_seq ?_; refine c_reg ?_
  refine run tt_ok 1 hE rfl fun a hE => ?_; refine c_end ?_; refine xT ?_; obtain ⟨o1133, hO1134, hK1135⟩ := bd hF; clear hF
  refine c_cut (fun a' w' => ∃ (s1137 : Bool) (G1138 : GH), o1133 = .go s1137 ∧ G956.le G1138 ∧ Env a' 59 [(0, .pointer (some ⟨b4, 0, none⟩)), (1, .int .i64 p1), (2, .int .i64 p2), (7, .int .i64 (i633 : Int)), (8, .bool s1137)] ∧ Inv w0 G0 [] G1138 [] w') ?_ ?_
  rotate_left
  · clear hE hI hO1134; rintro a w ⟨s1137, G1138, rfl, hg1140, hE, hI⟩; have hF := lrk_go hK1135; clear hK1135; refine xT ?_; refine c_seq ?_; refine c_reg ?_; refine run tt_ok 1 hE rfl fun a hE => ?_; refine c_end ?_
    refine xT ?_; refine c_if (b := s1137) hE rfl (fun hb1141 => ?_) (fun hb1141 => ?_); rotate_left
    · replace hF := cf hb1141 hF; refine c_skip ?_; refine xB ?_; refine xT ?_; exact ⟨_, hF, G1138, (hg959.trans hg1140), hE.keep ⟨rfl, rfl, rfl, rfl, trivial⟩, hI⟩
    replace hF := ct hb1141 hF; refine c_seq ?_; refine c_reg ?_; refine run tt_ok 2 hE rfl fun a hE => ?_; refine c_end ?_; refine xT ?_; refine c_ret ?_; refine xBr ?_; refine xTr ?_; refine xTr ?_; refine xTr ?_
    refine xBr ?_; refine xTr ?_; refine xTr ?_; cases hF; obtain rfl := nxt_ret hO625; have hF := lrk_ret hK626; cases hF; refine r_ret (v := _) hE rfl ⟨_, _, _, rfl, hI.nil, rfl, rfl⟩
  refine c_block ?_
  refine wp_loop_ghost (fun n' a' w' => ∃ (i1144 : Nat) (rest1146 : List ByteArray) (s1132 : Bool) (G1130 : GH), n' = rest1146.length ∧ i1144 ≤ y3.Names.length ∧ y3.Names.drop i1144 = rest1146 ∧ forL (ref03_Lattice_Meet.b2 k p0 p1 p2 i633) i1144 rest1146 s1132 = some o1133 ∧ G956.le G1130 ∧ Env a' 59 [(9, .int .i64 (i1144 : Int)), (0, .pointer (some ⟨b4, 0, none⟩)), (1, .int .i64 p1), (2, .int .i64 p2), (7, .int .i64 (i633 : Int)), (8, .bool s1132)] ∧ Inv w0 G0 [] G1130 [] w') _ ⟨0, _, _, G956, rfl, Nat.zero_le _, rfl, hO1134, (GH.le.refl _), hE.keep ⟨rfl, rfl, rfl, rfl, rfl, rfl, trivial⟩, hI⟩ ?_
  clear hE hI hO1134; rintro m1143 a w ⟨i1144, rest1146, s1132, G1130, rfl, hi1150, hd1147, hO1134, hg1136, hE, hI⟩; rcases rest1146 with _ | ⟨x1145, rest1146⟩
  · obtain rfl := forL_nil hO1134; have hlt1149 := drop_nil hd1147 hi1150; clear hd1147; refine c_seq ?_; refine c_seq ?_; refine c_reg ?_; refine run tt_ok 4 hE rfl fun a hE => ?_
    refine s_rt hI hE rfl (f_loadG tt_ok (hA7.mono ((hg627.trans hg959).trans hg1136)) 0 rfl rfl rfl rfl) rfl fun a hE => ?_; refine run tt_ok 2 hE rfl fun a hE => ?_; refine c_end ?_; refine xT ?_
    have hE := hE.tr (t := 37) rfl (decide_eq_false (by omega)); refine c_false hE rfl ?_; refine c_exit ?_; refine xTe ?_; refine xTe ?_; refine xBh ?_; refine xT ?_
    exact ⟨_, G1130, rfl, hg1136, hE.keep ⟨rfl, rfl, rfl, rfl, rfl, trivial⟩, hI⟩
  obtain ⟨stp1142, hF, hO1134⟩ := forL_step hO1134; obtain ⟨hx1148, hd1147, hlt1149⟩ := drop_cons hd1147; unfold ref03_Lattice_Meet.b2 at hF; refine c_seq ?_; refine c_seq ?_; refine c_reg ?_
  refine run tt_ok 4 hE rfl fun a hE => ?_; refine s_rt hI hE rfl (f_loadG tt_ok (hA7.mono ((hg627.trans hg959).trans hg1136)) 0 rfl rfl rfl rfl) rfl fun a hE => ?_; refine run tt_ok 2 hE rfl fun a hE => ?_; refine c_end ?_
  refine xT ?_; have hE := hE.tr (t := 37) rfl (decide_eq_true (by omega)); refine c_true hE rfl ?_; refine c_skip ?_; refine xT ?_; refine c_seq ?_; obtain ⟨m1192, hF, hR1194⟩ := bd hF
  refine c_cut (fun a' w' => ∃ (G1190 : GH), G1130.le G1190 ∧ Env a' 59 [(0, .pointer (some ⟨b4, 0, none⟩)), (1, .int .i64 p1), (2, .int .i64 p2), (7, .int .i64 (i633 : Int)), (8, .bool m1192), (9, .int .i64 (i1144 : Int))] ∧ Inv w0 G0 [] G1190 [] w') ?_ ?_
  rotate_left
  · clear hE hI; rintro a w ⟨G1190, hg1193, hE, hI⟩; clear hF; have hF := hR1194; clear hR1194; refine xT ?_; refine c_reg ?_; refine run tt_ok 3 hE rfl fun a hE => ?_; refine c_end ?_; refine xT ?_; cases hF
    have hE := hE.setI (t := 9) rfl (w64_succ hlt1149 (len_le h10))
    exact ⟨rest1146.length, Nat.lt_succ_self _, i1144 + 1, rest1146, _, G1190, rfl, hlt1149, hd1147, hO1134, (hg1136.trans hg1193), hE.keep ⟨rfl, rfl, rfl, rfl, rfl, rfl, trivial⟩, hI⟩
  refine c_block ?_; refine c_seq ?_; obtain ⟨m1212, hF, hR1214⟩ := bd hF
  refine c_cut (fun a' w' => ∃ (G1210 : GH), G1130.le G1210 ∧ Env a' 59 [(0, .pointer (some ⟨b4, 0, none⟩)), (1, .int .i64 p1), (2, .int .i64 p2), (7, .int .i64 (i633 : Int)), (8, .bool s1132), (9, .int .i64 (i1144 : Int)), (56, .bool m1212)] ∧ Inv w0 G0 [] G1210 [] w') ?_ ?_
  rotate_left
  · clear hE hI; rintro a w ⟨G1210, hg1213, hE, hI⟩; clear hF; have hF := hR1214; clear hR1214; refine xT ?_; refine c_if (b := m1212) hE rfl (fun hb1215 => ?_) (fun hb1215 => ?_); rotate_left
    · replace hF := cf hb1215 hF; refine c_skip ?_; refine xB ?_; refine xT ?_; cases hF; exact ⟨G1210, hg1213, hE.keep ⟨rfl, rfl, rfl, rfl, rfl, rfl, trivial⟩, hI⟩
    replace hF := ct hb1215 hF; refine c_reg ?_; refine run tt_ok 1 hE rfl fun a hE => ?_; refine c_end ?_; refine xB ?_; refine xT ?_; cases hF; exact ⟨G1210, hg1213, hE.keep ⟨rfl, rfl, rfl, rfl, rfl, rfl, trivial⟩, hI⟩
  refine c_reg ?_; refine run tt_ok 3 hE rfl fun a hE => ?_; obtain ⟨y1216, hy1217, hF⟩ := bd hF
  refine s_call0 cl_10 hI hE rfl rfl ((ref03_Lattice_Leq.ok k) _ _ _ _ hy1217 _ _ _ hI.pass0 (h2.mono ((hg627.trans hg959).trans hg1136))) rfl ?_; clear hE hI; rintro a w _ G1219 _ ⟨rfl, rfl⟩ hg1218 hI hE
  refine run tt_ok 1 hE rfl fun a hE => ?_; rcases bool_or y1216 with hb1220 | hb1220; rotate_left
  · replace hF := cf hb1220 hF; have hE := hE.tr (t := 44) rfl hb1220; clear hb1220; refine run tt_ok 12 hE rfl fun a hE => ?_; refine c_end ?_; refine xT ?_; cases hF
    exact ⟨G1219, hg1218, hE.keep ⟨rfl, rfl, rfl, rfl, rfl, rfl, rfl, trivial⟩, hI⟩
  replace hF := ct hb1220 hF; have hE := hE.tr (t := 44) rfl hb1220; clear hb1220; refine run tt_ok 3 hE rfl fun a hE => ?_; obtain ⟨y1221, hy1222, hF⟩ := bd hF
  refine s_call0 cl_10 hI hE rfl rfl ((ref03_Lattice_Leq.ok k) _ _ _ _ hy1222 _ _ _ hI.pass0 (h2.mono (((hg627.trans hg959).trans hg1136).trans hg1218))) rfl ?_; clear hE hI; rintro a w _ G1224 _ ⟨rfl, rfl⟩ hg1223 hI hE
  refine run tt_ok 2 hE rfl fun a hE => ?_; rcases bool_or y1221 with hb1225 | hb1225; rotate_left
  · replace hF := cf hb1225 hF; have hE := hE.tr (t := 50) rfl hb1225; clear hb1225; refine run tt_ok 6 hE rfl fun a hE => ?_; refine c_end ?_; refine xT ?_; cases hF
    exact ⟨G1224, (hg1218.trans hg1223), hE.keep ⟨rfl, rfl, rfl, rfl, rfl, rfl, rfl, trivial⟩, hI⟩
  replace hF := ct hb1225 hF; have hE := hE.tr (t := 50) rfl hb1225; clear hb1225; refine run tt_ok 3 hE rfl fun a hE => ?_; obtain ⟨y1226, hy1227, hF⟩ := bd hF
  refine s_call0 cl_10 hI hE rfl rfl ((ref03_Lattice_Leq.ok k) _ _ _ _ hy1227 _ _ _ hI.pass0 (h2.mono ((((hg627.trans hg959).trans hg1136).trans hg1218).trans hg1223))) rfl ?_; clear hE hI
  rintro a w _ G1229 _ ⟨rfl, rfl⟩ hg1228 hI hE; refine run tt_ok 2 hE rfl fun a hE => ?_; refine c_end ?_; refine xT ?_; cases hF
  exact ⟨G1229, ((hg1218.trans hg1223).trans hg1228), hE.keep ⟨rfl, rfl, rfl, rfl, rfl, rfl, rfl, trivial⟩, hI⟩

theorem cl_27 : Callable Tryd.prog 27 := ⟨_, Tryd.func27, by kernel_rfl, by kernel_rfl⟩

def ref03_Find.C (s : (List ByteArray) → ByteArray → Option Int) : Prop := ∀ (p0 : List ByteArray) (p1 : ByteArray) (r : Int), s p0 p1 = some r → ∀ (w0 : World) (G0 : GH) (A1 : Option Addr) (c2 : Nat), Inv w0 G0 [] G0 [] w0 → (Sl G0 A1 c2 1 (p0.map D.str)) → Calls Tryd.prog 27 #[.slice A1 p0.length c2, .string p1] w0 (Ret w0 G0 [] fun G' L' v => L' = [] ∧ v = .int .i64 r)

theorem ref03_Find.ok (k : Nat) : ref03_Find.C (ref03_Find k) := by
  intro p0 p1 r hF w0 G0 A1 c2 hI h3
  unfold ref03_Find at hF
  refine calls_of_wp Tryd.func27 rfl ?_
  have hE : Env _ 19 [(0, .slice A1 p0.length c2), (1, .string p1)] := Env.start ⟨[.slice A1 p0.length c2, .string p1]⟩ 17
  refine c_seq ?_; refine c_reg ?_; refine run tt_ok 1 hE rfl fun a hE => ?_; refine c_end ?_; refine xT ?_; refine c_seq ?_; refine c_seq ?_; refine c_reg ?_; refine run tt_ok 1 hE rfl fun a hE => ?_; refine c_end ?_
  refine xT ?_; obtain ⟨o17, hO18, hK19⟩ := bd hF; clear hF; refine c_cut (fun a' w' => ∃ (s21 : Unit) (G22 : GH), o17 = .go s21 ∧ G0.le G22 ∧ Env a' 19 [] ∧ Inv w0 G0 [] G22 [] w') ?_ ?_; rotate_left
  · clear hE hI hO18; rintro a w ⟨s21, G22, rfl, hg23, hE, hI⟩; have hF := lrk_go hK19; clear hK19; refine xT ?_; refine c_seq ?_; refine c_reg ?_; refine run tt_ok 1 hE rfl fun a hE => ?_; refine c_end ?_; refine xT ?_
    refine c_ret ?_; cases hF; refine r_ret (v := _) hE rfl ⟨_, _, _, rfl, hI.nil, rfl, rfl⟩
  refine c_block ?_
  refine wp_loop_ghost (fun n' a' w' => ∃ (i26 : Nat) (rest28 : List ByteArray) (s16 : Unit) (G15 : GH), n' = rest28.length ∧ i26 ≤ p0.length ∧ p0.drop i26 = rest28 ∧ forL (ref03_Find.b0 k p1) i26 rest28 s16 = some o17 ∧ G0.le G15 ∧ Env a' 19 [(5, .int .i64 (i26 : Int)), (0, .slice A1 p0.length c2), (1, .string p1)] ∧ Inv w0 G0 [] G15 [] w') _ ⟨0, _, _, G0, rfl, Nat.zero_le _, rfl, hO18, (GH.le.refl _), hE.keep ⟨rfl, rfl, rfl, trivial⟩, hI⟩ ?_
  clear hE hI hO18; rintro m25 a w ⟨i26, rest28, s16, G15, rfl, hi32, hd29, hO18, hg20, hE, hI⟩; rcases rest28 with _ | ⟨x27, rest28⟩
  · obtain rfl := forL_nil hO18; have hlt31 := drop_nil hd29 hi32; clear hd29; refine c_seq ?_; refine c_seq ?_; refine c_reg ?_; refine run tt_ok 4 hE rfl fun a hE => ?_; refine c_end ?_; refine xT ?_
    have hE := hE.tr (t := 9) rfl (decide_eq_false (by omega)); refine c_false hE rfl ?_; refine c_exit ?_; refine xTe ?_; refine xTe ?_; refine xBh ?_; refine xT ?_; exact ⟨_, G15, rfl, hg20, hE.keep trivial, hI⟩
  obtain ⟨stp24, hF, hO18⟩ := forL_step hO18; obtain ⟨hx30, hd29, hlt31⟩ := drop_cons hd29; unfold ref03_Find.b0 at hF; refine c_seq ?_; refine c_seq ?_; refine c_reg ?_; refine run tt_ok 4 hE rfl fun a hE => ?_
  refine c_end ?_; refine xT ?_; have hE := hE.tr (t := 9) rfl (decide_eq_true (by omega)); refine c_true hE rfl ?_; refine c_skip ?_; refine xT ?_; refine c_seq ?_; refine c_block ?_; refine c_seq ?_; refine c_reg ?_
  refine run tt_ok 2 hE rfl fun a hE => ?_; obtain ⟨b34, o35, cs, hb38, hR37, hA36⟩ := sl_at (h3.mono hg20) (Int.natCast_nonneg _) (natIdx hx30); obtain rfl := rep_str.1 hR37
  refine s_rt hI hE rfl (f_idx tt_ok hb38 rfl rfl rfl) rfl fun a hE => ?_; refine s_rt hI hE rfl (f_loadG tt_ok hA36 0 rfl rfl rfl rfl) rfl fun a hE => ?_; refine run tt_ok 2 hE rfl fun a hE => ?_; refine c_end ?_
  refine xT ?_; refine c_if (b := decide (x27 = p1)) hE rfl (fun hb39 => ?_) (fun hb39 => ?_)
  · replace hF := ct hb39 hF; refine c_seq ?_; refine c_reg ?_; refine run tt_ok 2 hE rfl fun a hE => ?_; refine c_end ?_; refine xT ?_; refine c_ret ?_; refine xBr ?_; refine xTr ?_; refine xTr ?_; refine xBr ?_
    refine xTr ?_; refine xTr ?_; cases hF; obtain rfl := nxt_ret hO18; have hF := lrk_ret hK19; cases hF; refine r_ret (v := _) hE rfl ⟨_, _, _, rfl, hI.nil, rfl, rfl⟩
  replace hF := cf hb39 hF; refine c_skip ?_; refine xB ?_; refine xT ?_; refine c_reg ?_; refine run tt_ok 3 hE rfl fun a hE => ?_; refine c_end ?_; refine xT ?_; cases hF
  have hE := hE.setI (t := 5) rfl (w64_succ hlt31 (len_le h3)); exact ⟨rest28.length, Nat.lt_succ_self _, i26 + 1, rest28, _, G15, rfl, hlt31, hd29, hO18, hg20, hE.keep ⟨rfl, rfl, rfl, trivial⟩, hI⟩
end Go.Proofs.YtliaopbgkcdibaaDoor
