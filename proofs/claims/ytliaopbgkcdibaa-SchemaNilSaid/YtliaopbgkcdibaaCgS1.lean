/- The contracts: what the machine does at a call is what the plain function says. Written by mk.py. -/
import Derived.Test.YtliaopbgkcdibaaCgS0
set_option linter.unusedVariables false
set_option linter.unusedSimpArgs false
set_option maxRecDepth 100000
namespace Go.Proofs.Ytliaopbgkcdibaa
open Go.RowKit
theorem lattice_Lattice_named.ok (k : Nat) : lattice_Lattice_named.C (lattice_Lattice_named k) := by
  intro p0 r hF w0 G0 D0 b1 A2 c3 m6 es8 cl9 A13 c14 cs15 A19 c20 cs21 hI h4 hM10 hR16 hR22
  unfold lattice_Lattice_named at hF
  refine calls_of_wp Try.func43 rfl ?_
  have hE : Env _ 65 [(0, .pointer (some ⟨b1, 0, none⟩))] := Env.start ⟨[.pointer (some ⟨b1, 0, none⟩)]⟩ 64
  refine c_seq ?_; refine c_reg ?_; refine run tt_ok 1 hE rfl fun a hE => ?_; refine c_end ?_; refine xT ?_; refine c_seq ?_; refine c_seq ?_; refine c_reg ?_; refine run tt_ok 3 hE rfl fun a hE => ?_
  refine s_rt hI hE rfl (f_loadB tt_ok 0 rfl rfl rfl rfl) rfl fun a hE => ?_; refine run tt_ok 2 hE rfl fun a hE => ?_; refine c_end ?_; refine xT ?_; obtain ⟨o261, hO262, hK263⟩ := bd hF; clear hF
  refine c_cut (fun a' w' => ∃ (s265 : (List (ByteArray × Int)) × (List Int) × (List Int)) (G266 : GH) (es268 : Array MapEntry) (cl269 : Nat) (A272 : Option Addr) (c273 : Nat) (cs274 : List Value) (A277 : Option Addr) (c278 : Nat) (cs279 : List Value), o261 = .go s265 ∧ G0.le G266 ∧ Env a' 65 [] ∧ Inv w0 G0 D0 G266 [.blk b1 ([.slice A2 p0.names_.length c3, .map (some m6), .slice A272 s265.2.1.length c273, .slice A277 s265.2.2.length c278] ++ (arCells .i64 256 p0.join_ ++ (arCells .i64 256 p0.meet_ ++ []))) 78, .map m6 es268 cl269, .row (.slice A272 s265.2.1.length c273) 83 1 s265.2.1.length cs274, .row (.slice A277 s265.2.2.length c278) 83 1 s265.2.2.length cs279] w' ∧ RM G266 false D.str (D.int .i64) s265.1 es268.toList ∧ RL G266 1 (s265.2.1.map (D.int .u32)) cs274 ∧ RL G266 1 (s265.2.2.map (D.int .u32)) cs279) ?_ ?_
  rotate_left
  · clear hE hI hO262; rintro a w ⟨s265, G266, es268, cl269, A272, c273, cs274, A277, c278, cs279, rfl, hg281, hE, hI, hM270, hR275, hR280⟩; have hF := lrk_go hK263; clear hK263; refine xT ?_; refine c_seq ?_; refine c_reg ?_
    refine run tt_ok 1 hE rfl fun a hE => ?_; refine c_end ?_; refine xT ?_; refine c_ret ?_; cases hF
    refine r_ret (v := _) hE rfl ⟨_, _, _, rfl, hI, es268, cl269, A272, c273, cs274, A277, c278, cs279, rfl, rfl, hM270, hR275, hR280⟩
  refine c_block ?_
  refine wp_loop_ghost (fun n' a' w' => ∃ (i284 : Nat) (rest286 : List ByteArray) (s260 : (List (ByteArray × Int)) × (List Int) × (List Int)) (G245 : GH) (es247 : Array MapEntry) (cl248 : Nat) (A251 : Option Addr) (c252 : Nat) (cs253 : List Value) (A256 : Option Addr) (c257 : Nat) (cs258 : List Value), n' = rest286.length ∧ i284 ≤ p0.names_.length ∧ p0.names_.drop i284 = rest286 ∧ forL (lattice_Lattice_named.b0 k p0) i284 rest286 s260 = some o261 ∧ G0.le G245 ∧ Env a' 65 [(12, .int .i64 (i284 : Int)), (0, .pointer (some ⟨b1, 0, none⟩)), (10, .slice A2 p0.names_.length c3), (11, .int .i64 (p0.names_.length : Int))] ∧ Inv w0 G0 D0 G245 [.blk b1 ([.slice A2 p0.names_.length c3, .map (some m6), .slice A251 s260.2.1.length c252, .slice A256 s260.2.2.length c257] ++ (arCells .i64 256 p0.join_ ++ (arCells .i64 256 p0.meet_ ++ []))) 78, .map m6 es247 cl248, .row (.slice A251 s260.2.1.length c252) 83 1 s260.2.1.length cs253, .row (.slice A256 s260.2.2.length c257) 83 1 s260.2.2.length cs258] w' ∧ RM G245 false D.str (D.int .i64) s260.1 es247.toList ∧ RL G245 1 (s260.2.1.map (D.int .u32)) cs253 ∧ RL G245 1 (s260.2.2.map (D.int .u32)) cs258) _ ⟨0, _, _, G0, es8, cl9, A13, c14, cs15, A19, c20, cs21, rfl, Nat.zero_le _, rfl, hO262, (GH.le.refl _), hE.keep ⟨rfl, rfl, rfl, rfl, trivial⟩, hI, hM10, hR16, hR22⟩ ?_
  clear hE hI hO262; rintro m283 a w ⟨i284, rest286, s260, G245, es247, cl248, A251, c252, cs253, A256, c257, cs258, rfl, hi290, hd287, hO262, hg264, hE, hI, hM249, hR254, hR259⟩; rcases rest286 with _ | ⟨x285, rest286⟩
  · obtain rfl := forL_nil hO262; have hlt289 := drop_nil hd287 hi290; clear hd287; refine c_seq ?_; refine c_reg ?_; refine run tt_ok 1 hE rfl fun a hE => ?_; refine c_end ?_; refine xT ?_; refine c_seq ?_
    have hE := hE.tr (t := 13) rfl (decide_eq_false (by omega)); refine c_false hE rfl ?_; refine c_exit ?_; refine xTe ?_; refine xTe ?_; refine xBh ?_; refine xT ?_
    exact ⟨_, G245, es247, cl248, A251, c252, cs253, A256, c257, cs258, rfl, hg264, hE.keep trivial, hI, hM249, hR254, hR259⟩
  obtain ⟨stp282, hF, hO262⟩ := forL_step hO262; obtain ⟨hx288, hd287, hlt289⟩ := drop_cons hd287; unfold lattice_Lattice_named.b0 at hF; refine c_seq ?_; refine c_reg ?_; refine run tt_ok 1 hE rfl fun a hE => ?_
  refine c_end ?_; refine xT ?_; refine c_seq ?_; have hE := hE.tr (t := 13) rfl (decide_eq_true (by omega)); refine c_true hE rfl ?_; refine c_skip ?_; refine xT ?_; refine c_seq ?_; refine c_block ?_; refine c_seq ?_
  refine c_reg ?_; refine run tt_ok 1 hE rfl fun a hE => ?_; obtain ⟨b292, o293, cs, hb296, hR295, hA294⟩ := sl_at (h4.mono hg264) (Int.natCast_nonneg _) (natIdx hx288); obtain rfl := rep_str.1 hR295
  refine s_rt hI hE rfl (f_idx tt_ok hb296 rfl rfl rfl) rfl fun a hE => ?_; refine s_rt hI hE rfl (f_loadG tt_ok hA294 0 rfl rfl rfl rfl) rfl fun a hE => ?_; refine run tt_ok 2 hE rfl fun a hE => ?_; refine c_end ?_
  refine xT ?_; refine c_seq ?_; refine c_seq ?_; refine c_reg ?_; refine run tt_ok 3 hE rfl fun a hE => ?_; refine s_rt hI hE rfl (f_loadB tt_ok 0 rfl rfl rfl rfl) rfl fun a hE => ?_
  refine run tt_ok 1 hE rfl fun a hE => ?_
  obtain ⟨c299, u300, hr301, hu302, hrt303⟩ := f_lookM key_str 1 rfl hM249 um_73 uk_9 true hE (L := [.blk b1 ([.slice A2 p0.names_.length c3, .map (some m6), .slice A251 s260.2.1.length c252, .slice A256 s260.2.2.length c257] ++ (arCells .i64 256 p0.join_ ++ (arCells .i64 256 p0.meet_ ++ []))) 78, .map m6 es247 cl248, .row (.slice A251 s260.2.1.length c252) 83 1 s260.2.1.length cs253, .row (.slice A256 s260.2.2.length c257) 83 1 s260.2.2.length cs258]) (x := .tmp 21) (y := .tmp 22) rfl rfl z_3 (rep_int.2 rfl) rfl
  obtain rfl : c299 = [u300] := hu302; obtain rfl := rep1_int.1 hr301; refine s_rt hI hE rfl (hrt303 _ _ _) rfl fun a hE => ?_; refine run tt_ok 5 hE rfl fun a hE => ?_; refine c_end ?_; refine xT ?_; refine c_seq ?_
  obtain ⟨m308, hF, hR310⟩ := bd hF
  refine c_cut (fun a' w' => ∃ (G306 : GH), G245.le G306 ∧ Env a' 65 [(0, .pointer (some ⟨b1, 0, none⟩)), (3, .int .i64 (i284 : Int)), (4, .string x285), (10, .slice A2 p0.names_.length c3), (11, .int .i64 (p0.names_.length : Int)), (12, .int .i64 (i284 : Int)), (35, .bool m308)] ∧ Inv w0 G0 D0 G306 [.blk b1 ([.slice A2 p0.names_.length c3, .map (some m6), .slice A251 s260.2.1.length c252, .slice A256 s260.2.2.length c257] ++ (arCells .i64 256 p0.join_ ++ (arCells .i64 256 p0.meet_ ++ []))) 78, .map m6 es247 cl248, .row (.slice A251 s260.2.1.length c252) 83 1 s260.2.1.length cs253, .row (.slice A256 s260.2.2.length c257) 83 1 s260.2.2.length cs258] w') ?_ ?_
  · refine c_reg ?_; refine run tt_ok 2 hE rfl fun a hE => ?_; rcases bool_or ((mget s260.1 x285).isSome) with hb373 | hb373
    · replace hF := ct hb373 hF; have hE := hE.tr (t := 27) rfl hb373; clear hb373; refine run tt_ok 8 hE rfl fun a hE => ?_; refine c_end ?_; refine xT ?_; cases hF
      exact ⟨G245, (GH.le.refl _), hE.keep ⟨rfl, rfl, rfl, rfl, rfl, rfl, rfl, trivial⟩, hI⟩
    replace hF := cf hb373 hF; have hE := hE.tr (t := 27) rfl hb373; clear hb373; refine run tt_ok 4 hE rfl fun a hE => ?_; rcases bool_or (decide (x285 = (⟨#[]⟩ : ByteArray))) with hb374 | hb374
    · replace hF := ct hb374 hF; have hE := hE.tr (t := 31) rfl hb374; clear hb374; refine run tt_ok 4 hE rfl fun a hE => ?_; refine c_end ?_; refine xT ?_; cases hF
      exact ⟨G245, (GH.le.refl _), hE.keep ⟨rfl, rfl, rfl, rfl, rfl, rfl, rfl, trivial⟩, hI⟩
    replace hF := cf hb374 hF; have hE := hE.tr (t := 31) rfl hb374; clear hb374; refine run tt_ok 4 hE rfl fun a hE => ?_; refine c_end ?_; refine xT ?_; cases hF
    exact ⟨G245, (GH.le.refl _), hE.keep ⟨rfl, rfl, rfl, rfl, rfl, rfl, rfl, trivial⟩, hI⟩
  clear hE hI; rintro a w ⟨G306, hg309, hE, hI⟩; clear hF; have hF := hR310; clear hR310; refine xT ?_; refine c_if (b := m308) hE rfl (fun hb372 => ?_) (fun hb372 => ?_)
  · replace hF := ct hb372 hF; refine c_seq ?_; refine c_reg ?_; refine run tt_ok 1 hE rfl fun a hE => ?_; refine c_end ?_; refine xT ?_; refine c_ret ?_; refine xTr ?_; refine xBr ?_; refine xTr ?_; refine xTr ?_
    refine xBr ?_; refine xTr ?_; refine xTr ?_; cases hF; obtain rfl := nxt_ret hO262; have hF := lrk_ret hK263; cases hF
    refine r_ret (v := _) hE rfl ⟨_, _, _, rfl, hI, es247, cl248, A251, c252, cs253, A256, c257, cs258, rfl, rfl, (hM249.mono hg309), (hR254.mono hg309), (hR259.mono hg309)⟩
  replace hF := cf hb372 hF; refine c_skip ?_; refine xT ?_; refine c_seq ?_; refine c_reg ?_; refine run tt_ok 3 hE rfl fun a hE => ?_; refine s_rt hI hE rfl (f_loadB tt_ok 0 rfl rfl rfl rfl) rfl fun a hE => ?_
  refine run tt_ok 2 hE rfl fun a hE => ?_; refine s_mapUpd (v := (i284 : Int)) key_str 1 hI hE rfl rfl (hM249.mono hg309) um_73 uk_9 rfl rfl rfl (rep_int.2 rfl) rfl fun a w es311 cl312 hE hM313 hI => ?_; refine c_end ?_
  refine xT ?_; refine c_seq ?_
  refine c_mix [8, 11] (.step 0 0 (.step 1 0 (.step 2 0 (.step 3 0 (.step 4 1 (.step 5 0 (.step 6 0 (.step 7 2 (.step 8 3 (.step 9 0 (.step 10 0 (.step 11 3 .nil)))))))))))) [.blk b1 ([.slice A2 p0.names_.length c3, .map (some m6), .slice A251 s260.2.1.length c252, .slice A256 s260.2.2.length c257] ++ (arCells .i64 256 p0.join_ ++ (arCells .i64 256 p0.meet_ ++ []))) 78] mixed (by kernel_rfl) hI ?_; clear hI; intro w hI
  have hS := hI.sw (Ls := [.blk b1 ([.slice A2 p0.names_.length c3, .map (some m6), .slice A251 s260.2.1.length c252, .slice A256 s260.2.2.length c257] ++ (arCells .i64 256 p0.join_ ++ (arCells .i64 256 p0.meet_ ++ []))) 78]) [0] (by decide) rfl (GH.le.refl _)
  refine mix_run tt_ok 4 hE rfl fun a hE => ?_; refine d_ld hS hE rfl rfl (RT.sw fun _ => (f_loadB tt_ok 0 rfl rfl rfl rfl)) rfl fun a hE => ?_; refine mix_run tt_ok 1 hE rfl fun a hE => ?_
  obtain ⟨z333, hz334, hF⟩ := bd hF; refine d_rt hE rfl rfl (f_shl rfl rfl hz334) rfl fun a hE => ?_; refine d_eff rfl ?_; refine s_bsl ai_74 hI hE rfl rfl rfl rfl rfl fun a w b335 hE hI => ?_
  have hR337 : RL G306 1 ([z333].map (D.int .u32)) [.int .u32 z333] := (RL.cons (rep_int.2 rfl) rfl RL.nil)
  have hS := hI.sw (Ls := [.blk b1 ([.slice A2 p0.names_.length c3, .map (some m6), .slice A251 s260.2.1.length c252, .slice A256 s260.2.2.length c257] ++ (arCells .i64 256 p0.join_ ++ (arCells .i64 256 p0.meet_ ++ []))) 78]) [1] (by decide) rfl (GH.le.refl _); refine d_next hS ?_
  refine d_last rfl ?_; obtain ⟨_, hb338, hF⟩ := bd hF; refine s_appO (f := (D.int .u32)) (xs := s260.2.1) (ys := [z333]) ai_74 3 0 hI hE rfl rfl rfl hR337 rfl rfl (lim_le hb338) rfl fun a w A339 c340 hE hI => ?_
  have hR342 := RL.appm (hR254.mono hg309) hR337; refine d_nextl ?_; refine mix_run tt_ok 2 hE rfl fun a hE => ?_; refine d_last rfl ?_
  refine s_storeB tt_ok 1 hI hE rfl rfl rfl rfl rfl rfl rfl rfl rfl rfl fun a w hE hI => ?_; refine d_nextl ?_; refine d_end ?_; refine xT ?_
  refine c_mix [8, 11] (.step 0 0 (.step 1 0 (.step 2 0 (.step 3 0 (.step 4 1 (.step 5 0 (.step 6 0 (.step 7 2 (.step 8 3 (.step 9 0 (.step 10 0 (.step 11 3 .nil)))))))))))) [.blk b1 ([.slice A2 p0.names_.length c3, .map (some m6), .slice A339 (s260.2.1 ++ [z333]).length c340, .slice A256 s260.2.2.length c257] ++ (arCells .i64 256 p0.join_ ++ (arCells .i64 256 p0.meet_ ++ []))) 78] mixed (by kernel_rfl) hI ?_; clear hI; intro w hI
  have hS := hI.sw (Ls := [.blk b1 ([.slice A2 p0.names_.length c3, .map (some m6), .slice A339 (s260.2.1 ++ [z333]).length c340, .slice A256 s260.2.2.length c257] ++ (arCells .i64 256 p0.join_ ++ (arCells .i64 256 p0.meet_ ++ []))) 78]) [1] (by decide) rfl (GH.le.refl _)
  refine mix_run tt_ok 4 hE rfl fun a hE => ?_; refine d_ld hS hE rfl rfl (RT.sw fun _ => (f_loadB tt_ok 0 rfl rfl rfl rfl)) rfl fun a hE => ?_; refine mix_run tt_ok 1 hE rfl fun a hE => ?_
  obtain ⟨z362, hz363, hF⟩ := bd hF; refine d_rt hE rfl rfl (f_shl rfl rfl hz363) rfl fun a hE => ?_; refine d_eff rfl ?_; refine s_bsl ai_74 hI hE rfl rfl rfl rfl rfl fun a w b364 hE hI => ?_
  have hR366 : RL G306 1 ([z362].map (D.int .u32)) [.int .u32 z362] := (RL.cons (rep_int.2 rfl) rfl RL.nil)
  have hS := hI.sw (Ls := [.blk b1 ([.slice A2 p0.names_.length c3, .map (some m6), .slice A339 (s260.2.1 ++ [z333]).length c340, .slice A256 s260.2.2.length c257] ++ (arCells .i64 256 p0.join_ ++ (arCells .i64 256 p0.meet_ ++ []))) 78]) [2] (by decide) rfl (GH.le.refl _); refine d_next hS ?_
  refine d_last rfl ?_; obtain ⟨_, hb367, hF⟩ := bd hF; refine s_appO (f := (D.int .u32)) (xs := s260.2.2) (ys := [z362]) ai_74 5 0 hI hE rfl rfl rfl hR366 rfl rfl (lim_le hb367) rfl fun a w A368 c369 hE hI => ?_
  have hR371 := RL.appm (hR259.mono hg309) hR366; refine d_nextl ?_; refine mix_run tt_ok 2 hE rfl fun a hE => ?_; refine d_last rfl ?_
  refine s_storeB tt_ok 2 hI hE rfl rfl rfl rfl rfl rfl rfl rfl rfl rfl fun a w hE hI => ?_; refine d_nextl ?_; refine d_end ?_; refine xB ?_; refine xT ?_; refine c_reg ?_; refine run tt_ok 2 hE rfl fun a hE => ?_
  refine c_end ?_; refine xT ?_; cases hF; have hE := hE.setI (t := 12) rfl (w64_succ hlt289 (len_le h4))
  exact ⟨rest286.length, Nat.lt_succ_self _, i284 + 1, rest286, _, G306, es311, cl312, A339, c340, (cs253 ++ [.int .u32 z333]), A368, c369, (cs258 ++ [.int .u32 z362]), rfl, hlt289, hd287, hO262, (hg264.trans hg309), hE.keep ⟨rfl, rfl, rfl, rfl, trivial⟩, (hI.dropN 2 rfl), hM313, hR342, hR371⟩

theorem cl_47 : Callable Try.prog 47 := ⟨_, Try.func47, by kernel_rfl, by kernel_rfl⟩

def lattice_set_has.C (s : Int → Int → Option Bool) : Prop := ∀ (p0 : Int) (p1 : Int) (r : Bool), s p0 p1 = some r → ∀ (w0 : World) (G0 : GH) , Inv w0 G0 [] G0 [] w0 → Calls Try.prog 47 #[.int .u32 p0, .int .i64 p1] w0 (Ret w0 G0 [] fun G' L' v => L' = [] ∧ v = .bool r)

theorem lattice_set_has.ok (k : Nat) : lattice_set_has.C (lattice_set_has k) := by
  intro p0 p1 r hF w0 G0  hI 
  unfold lattice_set_has at hF
  refine calls_of_wp Try.func47 rfl ?_
  have hE : Env _ 10 [(0, .int .u32 p0), (1, .int .i64 p1)] := Env.start ⟨[.int .u32 p0, .int .i64 p1]⟩ 8
  refine c_seq ?_; refine c_reg ?_; refine run tt_ok 1 hE rfl fun a hE => ?_; refine c_end ?_; refine xT ?_; refine c_seq ?_; refine c_reg ?_; refine run tt_ok 2 hE rfl fun a hE => ?_; obtain ⟨z2, hz3, hF⟩ := bd hF
  refine s_rt hI hE rfl (f_shr rfl rfl hz3) rfl fun a hE => ?_; refine run tt_ok 3 hE rfl fun a hE => ?_; refine c_end ?_; refine xT ?_; refine c_ret ?_; cases hF
  refine r_ret (v := _) hE rfl ⟨_, _, _, rfl, hI.nil, rfl, rfl⟩

theorem cl_44 : Callable Try.prog 44 := ⟨_, Try.func44, by kernel_rfl, by kernel_rfl⟩

def lattice_Lattice_edges.C (s : Tlattice_Lattice → (List TPair) → Option (Int × Tlattice_Lattice)) : Prop := ∀ (p0 : Tlattice_Lattice) (p1 : List TPair) (r : Int × Tlattice_Lattice), s p0 p1 = some r → ∀ (w0 : World) (G0 : GH) (D0 : List Nat) (b1 : Nat) (u2 : Value) (A3 : Option Nat) (A7 : Option Addr) (c8 : Nat) (cs9 : List Value) (A13 : Option Addr) (c14 : Nat) (cs15 : List Value) (A17 : Option Addr) (c18 : Nat), Inv w0 G0 D0 G0 [.blk b1 ([u2, .map A3, .slice A7 p0.up_.length c8, .slice A13 p0.down_.length c14] ++ (arCells .i64 256 p0.join_ ++ (arCells .i64 256 p0.meet_ ++ []))) 78, .row (.slice A7 p0.up_.length c8) 83 1 p0.up_.length cs9, .row (.slice A13 p0.down_.length c14) 83 1 p0.down_.length cs15] w0 → (Mp G0 A3 false D.str (D.int .i64) p0.at_) → (RL G0 1 (p0.up_.map (D.int .u32)) cs9) → (RL G0 1 (p0.down_.map (D.int .u32)) cs15) → (Sl G0 A17 c18 2 (p1.map TPair.d)) → Calls Try.prog 44 #[.pointer (some ⟨b1, 0, none⟩), .slice A17 p1.length c18] w0 (Ret w0 G0 D0 fun G' L' v => ∃ A0_2 c0_2 e0_2 A0_3 c0_3 e0_3, L' = [.blk b1 ([u2, .map A3, .slice A0_2 r.2.up_.length c0_2, .slice A0_3 r.2.down_.length c0_3] ++ (arCells .i64 256 p0.join_ ++ (arCells .i64 256 p0.meet_ ++ []))) 78, .row (.slice A0_2 r.2.up_.length c0_2) 83 1 r.2.up_.length e0_2, .row (.slice A0_3 r.2.down_.length c0_3) 83 1 r.2.down_.length e0_3] ∧ v = .int .i64 r.1 ∧ RL G' 1 (r.2.up_.map (D.int .u32)) e0_2 ∧ RL G' 1 (r.2.down_.map (D.int .u32)) e0_3)
end Go.Proofs.Ytliaopbgkcdibaa
