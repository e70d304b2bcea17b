/- The contracts: what the machine does at a call is what the plain function says. Written by mk.py. -/
import Derived.Test.YtliaopbgkcdibaaCtW
set_option linter.unusedVariables false
set_option linter.unusedSimpArgs false
set_option maxRecDepth 100000
namespace Go.Proofs.Ytliaopbgkcdibaa
open Go.RowKit
theorem cl_25 : Callable Try.prog 25 := ⟨_, Try.func25, by kernel_rfl, by kernel_rfl⟩

def law10_WeighPlan.C (s : TPlan → Int → Option Int) : Prop := ∀ (p0 : TPlan) (p1 : Int) (r : Int), s p0 p1 = some r → ∀ (w0 : World) (G0 : GH) (cs16 : List Value), Inv w0 G0 [] G0 [] w0 → (Rep G0 p0.d cs16) → Calls Try.prog 25 #[.agg ⟨cs16⟩, .int .i64 p1] w0 (Ret w0 G0 [] fun G' L' v => L' = [] ∧ v = .int .i64 r)

theorem cl_51 : Callable Try.prog 51 := ⟨_, Try.func51, by kernel_rfl, by kernel_rfl⟩

def law10_weighNodes.C (s : (List TNode) → Int → Option Int) : Prop := ∀ (p0 : List TNode) (p1 : Int) (r : Int), s p0 p1 = some r → ∀ (w0 : World) (G0 : GH) (A1 : Option Addr) (c2 : Nat), Inv w0 G0 [] G0 [] w0 → (Sl G0 A1 c2 5 (p0.map TNode.d)) → Calls Try.prog 51 #[.slice A1 p0.length c2, .int .i64 p1] w0 (Ret w0 G0 [] fun G' L' v => L' = [] ∧ v = .int .i64 r)

theorem law10_WeighPlan.F_ok (k : Nat) (s_law10_WeighPlan : TPlan → Int → Option Int) (s_law10_weighNodes : (List TNode) → Int → Option Int) (hs_law10_WeighPlan : law10_WeighPlan.C s_law10_WeighPlan) (hs_law10_weighNodes : law10_weighNodes.C s_law10_weighNodes) : law10_WeighPlan.C (law10_WeighPlan.F k s_law10_WeighPlan s_law10_weighNodes) := by
  intro p0 p1 r hF w0 G0 cs16 hI hR17
  unfold law10_WeighPlan.F at hF
  obtain ⟨A1, c2, A4, c5, A7, c8, A10, c11, A13, c14, rfl, h3, h6, h9, h12, h15⟩ := TPlan.inv.1 hR17
  refine calls_of_wp Try.func25 rfl ?_
  have hE : Env _ 74 [(0, .agg ⟨[.int .i64 p0.Kind, .int .i64 p0.N, .slice A1 p0.Kids.length c2, .slice A4 p0.E.length c5, .slice A7 p0.Keys.length c8, .slice A10 p0.Aggs.length c11, .slice A13 p0.Desc.length c14, .int .i64 p0.Width]⟩), (1, .int .i64 p1)] := Env.start ⟨[.agg ⟨[.int .i64 p0.Kind, .int .i64 p0.N, .slice A1 p0.Kids.length c2, .slice A4 p0.E.length c5, .slice A7 p0.Keys.length c8, .slice A10 p0.Aggs.length c11, .slice A13 p0.Desc.length c14, .int .i64 p0.Width]⟩, .int .i64 p1]⟩ 72
  refine c_seq ?_; refine c_reg ?_; refine s_box hI hE rfl rfl rfl rfl fun a w b18 hE hI => ?_; refine run tt_ok 1 hE rfl fun a hE => ?_; refine c_end ?_; refine xT ?_; refine c_seq ?_; refine c_seq ?_
  obtain ⟨m23, hF, hR25⟩ := bd hF
  refine c_cut (fun a' w' => ∃ (G21 : GH), G0.le G21 ∧ Env a' 74 [(1, .int .i64 p1), (2, .pointer (some ⟨b18, 0, none⟩)), (21, .bool m23)] ∧ Inv w0 G0 [] G21 [.blk b18 [.int .i64 p0.Kind, .int .i64 p0.N, .slice A1 p0.Kids.length c2, .slice A4 p0.E.length c5, .slice A7 p0.Keys.length c8, .slice A10 p0.Aggs.length c11, .slice A13 p0.Desc.length c14, .int .i64 p0.Width] 51] w') ?_ ?_
  · refine c_reg ?_; refine run tt_ok 3 hE rfl fun a hE => ?_; rcases bool_or (decide ((60 : Int) < p1)) with hb386 | hb386
    · replace hF := ct hb386 hF; have hE := hE.tr (t := 10) rfl hb386; clear hb386; refine run tt_ok 11 hE rfl fun a hE => ?_; refine c_end ?_; refine xT ?_; cases hF
      exact ⟨G0, (GH.le.refl _), hE.keep ⟨rfl, rfl, rfl, trivial⟩, hI⟩
    replace hF := cf hb386 hF; have hE := hE.tr (t := 10) rfl hb386; clear hb386; refine run tt_ok 1 hE rfl fun a hE => ?_; refine s_rt hI hE rfl (f_loadB tt_ok 0 rfl rfl rfl rfl) rfl fun a hE => ?_
    refine run tt_ok 4 hE rfl fun a hE => ?_; rcases bool_or (decide ((60 : Int) < (p0.Keys.length : Int))) with hb387 | hb387
    · replace hF := ct hb387 hF; have hE := hE.tr (t := 16) rfl hb387; clear hb387; refine run tt_ok 5 hE rfl fun a hE => ?_; refine c_end ?_; refine xT ?_; cases hF
      exact ⟨G0, (GH.le.refl _), hE.keep ⟨rfl, rfl, rfl, trivial⟩, hI⟩
    replace hF := cf hb387 hF; have hE := hE.tr (t := 16) rfl hb387; clear hb387; refine run tt_ok 1 hE rfl fun a hE => ?_; refine s_rt hI hE rfl (f_loadB tt_ok 0 rfl rfl rfl rfl) rfl fun a hE => ?_
    refine run tt_ok 3 hE rfl fun a hE => ?_; refine c_end ?_; refine xT ?_; cases hF; exact ⟨G0, (GH.le.refl _), hE.keep ⟨rfl, rfl, rfl, trivial⟩, hI⟩
  clear hE hI; rintro a w ⟨G21, hg24, hE, hI⟩; clear hF; have hF := hR25; clear hR25; refine xT ?_; refine c_if (b := m23) hE rfl (fun hb385 => ?_) (fun hb385 => ?_)
  · replace hF := ct hb385 hF; refine c_seq ?_; refine c_reg ?_; refine run tt_ok 1 hE rfl fun a hE => ?_; refine c_end ?_; refine xT ?_; refine c_ret ?_; refine xTr ?_; cases hF
    refine r_ret (v := _) hE rfl ⟨_, _, _, rfl, hI.nil, rfl, rfl⟩
  replace hF := cf hb385 hF; refine c_skip ?_; refine xT ?_; refine c_seq ?_; refine c_reg ?_; refine run tt_ok 1 hE rfl fun a hE => ?_; refine s_rt hI hE rfl (f_loadB tt_ok 0 rfl rfl rfl rfl) rfl fun a hE => ?_
  refine run tt_ok 2 hE rfl fun a hE => ?_; obtain ⟨y31, hy32, hF⟩ := bd hF; refine s_call0 cl_51 hI hE rfl rfl (hs_law10_weighNodes _ _ _ hy32 _ _ _ _ hI.pass0 (h6.mono hg24)) rfl ?_; clear hE hI
  rintro a w _ G34 _ ⟨rfl, rfl⟩ hg33 hI hE; refine run tt_ok 2 hE rfl fun a hE => ?_; refine c_end ?_; refine xT ?_; refine c_seq ?_; refine c_seq ?_; refine c_reg ?_; refine run tt_ok 1 hE rfl fun a hE => ?_
  refine c_end ?_; refine xT ?_; obtain ⟨o121, hO122, hK123⟩ := bd hF; clear hF
  refine c_cut (fun a' w' => ∃ (s125 : Int × Int) (G126 : GH), o121 = .go s125 ∧ G34.le G126 ∧ Env a' 74 [(1, .int .i64 p1), (2, .pointer (some ⟨b18, 0, none⟩)), (5, .int .i64 s125.1)] ∧ Inv w0 G0 [] G126 [.blk b18 [.int .i64 p0.Kind, .int .i64 p0.N, .slice A1 p0.Kids.length c2, .slice A4 p0.E.length c5, .slice A7 p0.Keys.length c8, .slice A10 p0.Aggs.length c11, .slice A13 p0.Desc.length c14, .int .i64 p0.Width] 51] w') ?_ ?_
  · refine c_block ?_
    refine wp_loop_ghost (fun n' a' w' => ∃ (s120 : Int × Int) (G117 : GH), whileL (law10_WeighPlan.b1 k s_law10_WeighPlan s_law10_weighNodes p0 p1) n' s120 = some o121 ∧ G34.le G117 ∧ Env a' 74 [(1, .int .i64 p1), (2, .pointer (some ⟨b18, 0, none⟩)), (5, .int .i64 s120.1), (6, .int .i64 s120.2)] ∧ Inv w0 G0 [] G117 [.blk b18 [.int .i64 p0.Kind, .int .i64 p0.N, .slice A1 p0.Kids.length c2, .slice A4 p0.E.length c5, .slice A7 p0.Keys.length c8, .slice A10 p0.Aggs.length c11, .slice A13 p0.Desc.length c14, .int .i64 p0.Width] 51] w') _ ⟨_, G34, hO122, (GH.le.refl _), hE.keep ⟨rfl, rfl, rfl, rfl, trivial⟩, hI⟩ ?_
    clear hE hI hO122; rintro m342 a w ⟨s120, G117, hO122, hg124, hE, hI⟩; rcases m342 with _ | m342
    · cases hO122
    obtain ⟨stp341, hF, hO122⟩ := while_step hO122; unfold law10_WeighPlan.b1 at hF; refine c_seq ?_; refine c_seq ?_; obtain ⟨m357, hF, hR359⟩ := bd hF
    refine c_cut (fun a' w' => ∃ (G355 : GH), G117.le G355 ∧ Env a' 74 [(1, .int .i64 p1), (2, .pointer (some ⟨b18, 0, none⟩)), (5, .int .i64 s120.1), (6, .int .i64 s120.2), (36, .bool m357)] ∧ Inv w0 G0 [] G355 [.blk b18 [.int .i64 p0.Kind, .int .i64 p0.N, .slice A1 p0.Kids.length c2, .slice A4 p0.E.length c5, .slice A7 p0.Keys.length c8, .slice A10 p0.Aggs.length c11, .slice A13 p0.Desc.length c14, .int .i64 p0.Width] 51] w') ?_ ?_
    · refine c_reg ?_; refine run tt_ok 2 hE rfl fun a hE => ?_; refine s_rt hI hE rfl (f_loadB tt_ok 0 rfl rfl rfl rfl) rfl fun a hE => ?_; refine run tt_ok 3 hE rfl fun a hE => ?_
      rcases bool_or (decide (s120.2 < (p0.Aggs.length : Int))) with hb384 | hb384
      · replace hF := ct hb384 hF; have hE := hE.tr (t := 33) rfl hb384; clear hb384; refine run tt_ok 3 hE rfl fun a hE => ?_; refine c_end ?_; refine xT ?_; cases hF
        exact ⟨G117, (GH.le.refl _), hE.keep ⟨rfl, rfl, rfl, rfl, rfl, trivial⟩, hI⟩
      replace hF := cf hb384 hF; have hE := hE.tr (t := 33) rfl hb384; clear hb384; refine run tt_ok 3 hE rfl fun a hE => ?_; refine c_end ?_; refine xT ?_; cases hF
      exact ⟨G117, (GH.le.refl _), hE.keep ⟨rfl, rfl, rfl, rfl, rfl, trivial⟩, hI⟩
    clear hE hI; rintro a w ⟨G355, hg358, hE, hI⟩; clear hF; have hF := hR359; clear hR359; refine xT ?_; refine c_if (b := m357) hE rfl (fun hb383 => ?_) (fun hb383 => ?_); rotate_left
    · replace hF := cf hb383 hF; refine c_exit ?_; refine xTe ?_; refine xTe ?_; refine xBh ?_; refine xT ?_; cases hF; obtain rfl := wnxt_brk hO122
      exact ⟨_, G355, rfl, (hg124.trans hg358), hE.keep ⟨rfl, rfl, rfl, trivial⟩, hI⟩
    replace hF := ct hb383 hF; refine c_skip ?_; refine xT ?_; refine c_seq ?_; refine c_block ?_; refine c_reg ?_; refine run tt_ok 3 hE rfl fun a hE => ?_
    refine s_rt hI hE rfl (f_loadB tt_ok 0 rfl rfl rfl rfl) rfl fun a hE => ?_; refine run tt_ok 1 hE rfl fun a hE => ?_; obtain ⟨y373, hy374, hF⟩ := bd hF
    obtain ⟨b369, o370, cs, hb378, hR372, hA371⟩ := sl_at (h12.mono (((hg24.trans hg33).trans hg124).trans hg358)) (getO_some hy374).1 (getO_some hy374).2; obtain ⟨A375, c376, rfl, h377⟩ := TGather.inv.1 hR372
    refine s_rt hI hE rfl (f_idx tt_ok hb378 rfl rfl rfl) rfl fun a hE => ?_; refine run tt_ok 1 hE rfl fun a hE => ?_; refine s_rt hI hE rfl (f_loadG tt_ok hA371 1 rfl rfl rfl rfl) rfl fun a hE => ?_
    refine run tt_ok 2 hE rfl fun a hE => ?_; obtain ⟨y379, hy380, hF⟩ := bd hF; refine s_call0 cl_51 hI hE rfl rfl (hs_law10_weighNodes _ _ _ hy380 _ _ _ _ hI.pass0 h377) rfl ?_; clear hE hI
    rintro a w _ G382 _ ⟨rfl, rfl⟩ hg381 hI hE; refine run tt_ok 2 hE rfl fun a hE => ?_; refine c_end ?_; refine xB ?_; refine xT ?_; refine c_reg ?_; refine run tt_ok 3 hE rfl fun a hE => ?_; refine c_end ?_; refine xT ?_
    cases hF; exact ⟨m342, Nat.lt_succ_self _, _, G382, hO122, ((hg124.trans hg358).trans hg381), hE.keep ⟨rfl, rfl, rfl, rfl, trivial⟩, hI⟩
  clear hE hI hO122; rintro a w ⟨s125, G126, rfl, hg129, hE, hI⟩; have hF := lrk_go hK123; clear hK123; refine xT ?_; refine c_seq ?_; refine c_seq ?_; refine c_reg ?_; refine run tt_ok 1 hE rfl fun a hE => ?_
  refine c_end ?_; refine xT ?_; obtain ⟨o264, hO265, hK266⟩ := bd hF; clear hF
  refine c_cut (fun a' w' => ∃ (s268 : Int × Int) (G269 : GH), o264 = .go s268 ∧ G126.le G269 ∧ Env a' 74 [(5, .int .i64 s268.1)] ∧ Inv w0 G0 [] G269 [.blk b18 [.int .i64 p0.Kind, .int .i64 p0.N, .slice A1 p0.Kids.length c2, .slice A4 p0.E.length c5, .slice A7 p0.Keys.length c8, .slice A10 p0.Aggs.length c11, .slice A13 p0.Desc.length c14, .int .i64 p0.Width] 51] w') ?_ ?_
  rotate_left
  · clear hE hI hO265; rintro a w ⟨s268, G269, rfl, hg272, hE, hI⟩; have hF := lrk_go hK266; clear hK266; refine xT ?_; refine c_seq ?_; refine c_reg ?_; refine run tt_ok 3 hE rfl fun a hE => ?_; refine c_end ?_; refine xT ?_
    refine c_ret ?_; cases hF; refine r_ret (v := _) hE rfl ⟨_, _, _, rfl, hI.nil, rfl, rfl⟩
  refine c_block ?_
  refine wp_loop_ghost (fun n' a' w' => ∃ (s263 : Int × Int) (G260 : GH), whileL (law10_WeighPlan.b0 k s_law10_WeighPlan s_law10_weighNodes p0 p1) n' s263 = some o264 ∧ G126.le G260 ∧ Env a' 74 [(1, .int .i64 p1), (2, .pointer (some ⟨b18, 0, none⟩)), (5, .int .i64 s263.1), (7, .int .i64 s263.2)] ∧ Inv w0 G0 [] G260 [.blk b18 [.int .i64 p0.Kind, .int .i64 p0.N, .slice A1 p0.Kids.length c2, .slice A4 p0.E.length c5, .slice A7 p0.Keys.length c8, .slice A10 p0.Aggs.length c11, .slice A13 p0.Desc.length c14, .int .i64 p0.Width] 51] w') _ ⟨_, G126, hO265, (GH.le.refl _), hE.keep ⟨rfl, rfl, rfl, rfl, trivial⟩, hI⟩ ?_
  clear hE hI hO265; rintro m274 a w ⟨s263, G260, hO265, hg267, hE, hI⟩; rcases m274 with _ | m274
  · cases hO265
  obtain ⟨stp273, hF, hO265⟩ := while_step hO265; unfold law10_WeighPlan.b0 at hF; refine c_seq ?_; refine c_seq ?_; obtain ⟨m289, hF, hR291⟩ := bd hF
  refine c_cut (fun a' w' => ∃ (G287 : GH), G260.le G287 ∧ Env a' 74 [(1, .int .i64 p1), (2, .pointer (some ⟨b18, 0, none⟩)), (5, .int .i64 s263.1), (7, .int .i64 s263.2), (59, .bool m289)] ∧ Inv w0 G0 [] G287 [.blk b18 [.int .i64 p0.Kind, .int .i64 p0.N, .slice A1 p0.Kids.length c2, .slice A4 p0.E.length c5, .slice A7 p0.Keys.length c8, .slice A10 p0.Aggs.length c11, .slice A13 p0.Desc.length c14, .int .i64 p0.Width] 51] w') ?_ ?_
  · refine c_reg ?_; refine run tt_ok 2 hE rfl fun a hE => ?_; refine s_rt hI hE rfl (f_loadB tt_ok 0 rfl rfl rfl rfl) rfl fun a hE => ?_; refine run tt_ok 3 hE rfl fun a hE => ?_
    rcases bool_or (decide (s263.2 < (p0.Kids.length : Int))) with hb340 | hb340
    · replace hF := ct hb340 hF; have hE := hE.tr (t := 56) rfl hb340; clear hb340; refine run tt_ok 3 hE rfl fun a hE => ?_; refine c_end ?_; refine xT ?_; cases hF
      exact ⟨G260, (GH.le.refl _), hE.keep ⟨rfl, rfl, rfl, rfl, rfl, trivial⟩, hI⟩
    replace hF := cf hb340 hF; have hE := hE.tr (t := 56) rfl hb340; clear hb340; refine run tt_ok 3 hE rfl fun a hE => ?_; refine c_end ?_; refine xT ?_; cases hF
    exact ⟨G260, (GH.le.refl _), hE.keep ⟨rfl, rfl, rfl, rfl, rfl, trivial⟩, hI⟩
  clear hE hI; rintro a w ⟨G287, hg290, hE, hI⟩; clear hF; have hF := hR291; clear hR291; refine xT ?_; refine c_if (b := m289) hE rfl (fun hb339 => ?_) (fun hb339 => ?_); rotate_left
  · replace hF := cf hb339 hF; refine c_exit ?_; refine xTe ?_; refine xTe ?_; refine xBh ?_; refine xT ?_; cases hF; obtain rfl := wnxt_brk hO265; exact ⟨_, G287, rfl, (hg267.trans hg290), hE.keep ⟨rfl, trivial⟩, hI⟩
  replace hF := ct hb339 hF; refine c_skip ?_; refine xT ?_; refine c_seq ?_; refine c_block ?_; refine c_reg ?_; refine run tt_ok 2 hE rfl fun a hE => ?_
  refine s_rt hI hE rfl (f_loadB tt_ok 0 rfl rfl rfl rfl) rfl fun a hE => ?_; refine run tt_ok 1 hE rfl fun a hE => ?_; obtain ⟨y317, hy318, hF⟩ := bd hF
  obtain ⟨b313, o314, cs, hb334, hR316, hA315⟩ := sl_at (h3.mono ((((hg24.trans hg33).trans hg129).trans hg267).trans hg290)) (getO_some hy318).1 (getO_some hy318).2
  obtain ⟨A319, c320, A322, c323, A325, c326, A328, c329, A331, c332, rfl, h321, h324, h327, h330, h333⟩ := TPlan.inv.1 hR316; refine s_rt hI hE rfl (f_idx tt_ok hb334 rfl rfl rfl) rfl fun a hE => ?_
  refine s_rt hI hE rfl (f_loadG tt_ok hA315 0 rfl rfl rfl rfl) rfl fun a hE => ?_; refine run tt_ok 2 hE rfl fun a hE => ?_; obtain ⟨y335, hy336, hF⟩ := bd hF
  refine s_call0 cl_25 hI hE rfl rfl (hs_law10_WeighPlan _ _ _ hy336 _ _ _ hI.pass0 (TPlan.inv.2 ⟨A319, c320, A322, c323, A325, c326, A328, c329, A331, c332, rfl, h321, h324, h327, h330, h333⟩)) rfl ?_; clear hE hI
  rintro a w _ G338 _ ⟨rfl, rfl⟩ hg337 hI hE; refine run tt_ok 2 hE rfl fun a hE => ?_; refine c_end ?_; refine xB ?_; refine xT ?_; refine c_reg ?_; refine run tt_ok 3 hE rfl fun a hE => ?_; refine c_end ?_; refine xT ?_
  cases hF; exact ⟨m274, Nat.lt_succ_self _, _, G338, hO265, ((hg267.trans hg290).trans hg337), hE.keep ⟨rfl, rfl, rfl, rfl, trivial⟩, hI⟩

theorem law10_weighNodes.F_ok (k : Nat) (s_law10_WeighPlan : TPlan → Int → Option Int) (s_law10_weighNodes : (List TNode) → Int → Option Int) (hs_law10_WeighPlan : law10_WeighPlan.C s_law10_WeighPlan) (hs_law10_weighNodes : law10_weighNodes.C s_law10_weighNodes) : law10_weighNodes.C (law10_weighNodes.F k s_law10_WeighPlan s_law10_weighNodes) := by
  intro p0 p1 r hF w0 G0 A1 c2 hI h3
  unfold law10_weighNodes.F at hF
  refine calls_of_wp Try.func51 rfl ?_
  have hE : Env _ 60 [(0, .slice A1 p0.length c2), (1, .int .i64 p1)] := Env.start ⟨[.slice A1 p0.length c2, .int .i64 p1]⟩ 58
  refine c_seq ?_; refine c_reg ?_; refine run tt_ok 1 hE rfl fun a hE => ?_; refine c_end ?_; refine xT ?_; refine c_seq ?_; refine c_seq ?_; refine c_reg ?_; refine run tt_ok 2 hE rfl fun a hE => ?_; refine c_end ?_
  refine xT ?_; refine c_if (b := decide ((60 : Int) < p1)) hE rfl (fun hb1058 => ?_) (fun hb1058 => ?_)
  · replace hF := ct hb1058 hF; refine c_seq ?_; refine c_reg ?_; refine run tt_ok 1 hE rfl fun a hE => ?_; refine c_end ?_; refine xT ?_; refine c_ret ?_; refine xTr ?_; cases hF
    refine r_ret (v := _) hE rfl ⟨_, _, _, rfl, hI.nil, rfl, rfl⟩
  replace hF := cf hb1058 hF; refine c_skip ?_; refine xT ?_; refine c_seq ?_; refine c_reg ?_; refine run tt_ok 1 hE rfl fun a hE => ?_; refine c_end ?_; refine xT ?_; refine c_seq ?_; refine c_seq ?_; refine c_reg ?_
  refine run tt_ok 1 hE rfl fun a hE => ?_; refine c_end ?_; refine xT ?_; obtain ⟨o700, hO701, hK702⟩ := bd hF; clear hF
  refine c_cut (fun a' w' => ∃ (s704 : Int × Int) (G705 : GH), o700 = .go s704 ∧ G0.le G705 ∧ Env a' 60 [(5, .int .i64 s704.1)] ∧ Inv w0 G0 [] G705 [] w') ?_ ?_; rotate_left
  · clear hE hI hO701; rintro a w ⟨s704, G705, rfl, hg708, hE, hI⟩; have hF := lrk_go hK702; clear hK702; refine xT ?_; refine c_seq ?_; refine c_reg ?_; refine run tt_ok 3 hE rfl fun a hE => ?_; refine c_end ?_; refine xT ?_
    refine c_ret ?_; cases hF; refine r_ret (v := _) hE rfl ⟨_, _, _, rfl, hI.nil, rfl, rfl⟩
  refine c_block ?_
  refine wp_loop_ghost (fun n' a' w' => ∃ (s699 : Int × Int) (G696 : GH), whileL (law10_weighNodes.b0 k s_law10_WeighPlan s_law10_weighNodes p0 p1) n' s699 = some o700 ∧ G0.le G696 ∧ Env a' 60 [(0, .slice A1 p0.length c2), (1, .int .i64 p1), (5, .int .i64 s699.1), (6, .int .i64 s699.2)] ∧ Inv w0 G0 [] G696 [] w') _ ⟨_, G0, hO701, (GH.le.refl _), hE.keep ⟨rfl, rfl, rfl, rfl, trivial⟩, hI⟩ ?_
  clear hE hI hO701; rintro m710 a w ⟨s699, G696, hO701, hg703, hE, hI⟩; rcases m710 with _ | m710
  · cases hO701
  obtain ⟨stp709, hF, hO701⟩ := while_step hO701; unfold law10_weighNodes.b0 at hF; refine c_seq ?_; refine c_seq ?_; obtain ⟨m721, hF, hR723⟩ := bd hF
  refine c_cut (fun a' w' => ∃ (G719 : GH), G696.le G719 ∧ Env a' 60 [(0, .slice A1 p0.length c2), (1, .int .i64 p1), (5, .int .i64 s699.1), (6, .int .i64 s699.2), (17, .bool m721)] ∧ Inv w0 G0 [] G719 [] w') ?_ ?_
  · refine c_reg ?_; refine run tt_ok 5 hE rfl fun a hE => ?_; rcases bool_or (decide (s699.2 < (p0.length : Int))) with hb1057 | hb1057
    · replace hF := ct hb1057 hF; have hE := hE.tr (t := 14) rfl hb1057; clear hb1057; refine run tt_ok 3 hE rfl fun a hE => ?_; refine c_end ?_; refine xT ?_; cases hF
      exact ⟨G696, (GH.le.refl _), hE.keep ⟨rfl, rfl, rfl, rfl, rfl, trivial⟩, hI⟩
    replace hF := cf hb1057 hF; have hE := hE.tr (t := 14) rfl hb1057; clear hb1057; refine run tt_ok 3 hE rfl fun a hE => ?_; refine c_end ?_; refine xT ?_; cases hF
    exact ⟨G696, (GH.le.refl _), hE.keep ⟨rfl, rfl, rfl, rfl, rfl, trivial⟩, hI⟩
  clear hE hI; rintro a w ⟨G719, hg722, hE, hI⟩; clear hF; have hF := hR723; clear hR723; refine xT ?_; refine c_if (b := m721) hE rfl (fun hb1056 => ?_) (fun hb1056 => ?_); rotate_left
  · replace hF := cf hb1056 hF; refine c_exit ?_; refine xTe ?_; refine xTe ?_; refine xBh ?_; refine xT ?_; cases hF; obtain rfl := wnxt_brk hO701; exact ⟨_, G719, rfl, (hg703.trans hg722), hE.keep ⟨rfl, trivial⟩, hI⟩
  replace hF := ct hb1056 hF; refine c_skip ?_; refine xT ?_; refine c_seq ?_; refine c_block ?_; refine c_seq ?_; refine c_reg ?_; refine run tt_ok 4 hE rfl fun a hE => ?_; obtain ⟨y733, hy734, hF⟩ := bd hF
  obtain ⟨b729, o730, cs, hb741, hR732, hA731⟩ := sl_at (h3.mono (hg703.trans hg722)) (getO_some hy734).1 (getO_some hy734).2; obtain ⟨A735, c736, A738, c739, rfl, h737, h740⟩ := TNode.inv.1 hR732
  refine s_rt hI hE rfl (f_idx tt_ok hb741 rfl rfl rfl) rfl fun a hE => ?_; refine run tt_ok 1 hE rfl fun a hE => ?_; refine s_rt hI hE rfl (f_loadG tt_ok hA731 3 rfl rfl rfl rfl) rfl fun a hE => ?_
  refine run tt_ok 2 hE rfl fun a hE => ?_; obtain ⟨y742, hy743, hF⟩ := bd hF; refine s_call0 cl_51 hI hE rfl rfl (hs_law10_weighNodes _ _ _ hy743 _ _ _ _ hI.pass0 h737) rfl ?_; clear hE hI
  rintro a w _ G745 _ ⟨rfl, rfl⟩ hg744 hI hE; refine run tt_ok 2 hE rfl fun a hE => ?_; refine c_end ?_; refine xT ?_; refine c_seq ?_; refine c_reg ?_; refine run tt_ok 1 hE rfl fun a hE => ?_; refine c_end ?_
  refine xT ?_; obtain ⟨o946, hO947, hK948⟩ := bd hF; clear hF
  refine c_cut (fun a' w' => ∃ (s950 : Int × Int) (G951 : GH), o946 = .go s950 ∧ G745.le G951 ∧ Env a' 60 [(0, .slice A1 p0.length c2), (1, .int .i64 p1), (5, .int .i64 s950.1), (6, .int .i64 s699.2)] ∧ Inv w0 G0 [] G951 [] w') ?_ ?_
  rotate_left
  · clear hE hI hO947; rintro a w ⟨s950, G951, rfl, hg954, hE, hI⟩; have hF := lrk_go hK948; clear hK948; refine xB ?_; refine xT ?_; refine c_reg ?_; refine run tt_ok 3 hE rfl fun a hE => ?_; refine c_end ?_; refine xT ?_
    cases hF; exact ⟨m710, Nat.lt_succ_self _, _, G951, hO701, (((hg703.trans hg722).trans hg744).trans hg954), hE.keep ⟨rfl, rfl, rfl, rfl, trivial⟩, hI⟩
  refine c_block ?_
  refine wp_loop_ghost (fun n' a' w' => ∃ (s945 : Int × Int) (G942 : GH), whileL (law10_weighNodes.b1 k s_law10_WeighPlan s_law10_weighNodes y733 p1) n' s945 = some o946 ∧ G745.le G942 ∧ Env a' 60 [(0, .slice A1 p0.length c2), (1, .int .i64 p1), (5, .int .i64 s945.1), (6, .int .i64 s699.2), (7, .int .i64 s945.2)] ∧ Inv w0 G0 [] G942 [] w') _ ⟨_, G745, hO947, (GH.le.refl _), hE.keep ⟨rfl, rfl, rfl, rfl, rfl, trivial⟩, hI⟩ ?_
  clear hE hI hO947; rintro m956 a w ⟨s945, G942, hO947, hg949, hE, hI⟩; rcases m956 with _ | m956
  · cases hO947
  obtain ⟨stp955, hF, hO947⟩ := while_step hO947; unfold law10_weighNodes.b1 at hF; refine c_seq ?_; refine c_seq ?_; obtain ⟨m982, hF, hR984⟩ := bd hF
  refine c_cut (fun a' w' => ∃ (G980 : GH), G942.le G980 ∧ Env a' 60 [(0, .slice A1 p0.length c2), (1, .int .i64 p1), (5, .int .i64 s945.1), (6, .int .i64 s699.2), (7, .int .i64 s945.2), (42, .bool m982)] ∧ Inv w0 G0 [] G980 [] w') ?_ ?_
  · refine c_reg ?_; refine run tt_ok 3 hE rfl fun a hE => ?_; obtain ⟨b1044, o1045, cs, hb1054, hR1047, hA1046⟩ := sl_at (h3.mono (((hg703.trans hg722).trans hg744).trans hg949)) (getO_some hy734).1 (getO_some hy734).2
    obtain ⟨A1048, c1049, A1051, c1052, rfl, h1050, h1053⟩ := TNode.inv.1 hR1047; refine s_rt hI hE rfl (f_idx tt_ok hb1054 rfl rfl rfl) rfl fun a hE => ?_; refine run tt_ok 1 hE rfl fun a hE => ?_
    refine s_rt hI hE rfl (f_loadG tt_ok hA1046 4 rfl rfl rfl rfl) rfl fun a hE => ?_; refine run tt_ok 3 hE rfl fun a hE => ?_; rcases bool_or (decide (s945.2 < (y733.Plans.length : Int))) with hb1055 | hb1055
    · replace hF := ct hb1055 hF; have hE := hE.tr (t := 39) rfl hb1055; clear hb1055; refine run tt_ok 3 hE rfl fun a hE => ?_; refine c_end ?_; refine xT ?_; cases hF
      exact ⟨G942, (GH.le.refl _), hE.keep ⟨rfl, rfl, rfl, rfl, rfl, rfl, trivial⟩, hI⟩
    replace hF := cf hb1055 hF; have hE := hE.tr (t := 39) rfl hb1055; clear hb1055; refine run tt_ok 3 hE rfl fun a hE => ?_; refine c_end ?_; refine xT ?_; cases hF
    exact ⟨G942, (GH.le.refl _), hE.keep ⟨rfl, rfl, rfl, rfl, rfl, rfl, trivial⟩, hI⟩
  clear hE hI; rintro a w ⟨G980, hg983, hE, hI⟩; clear hF; have hF := hR984; clear hR984; refine xT ?_; refine c_if (b := m982) hE rfl (fun hb1043 => ?_) (fun hb1043 => ?_); rotate_left
  · replace hF := cf hb1043 hF; refine c_exit ?_; refine xTe ?_; refine xTe ?_; refine xBh ?_; refine xT ?_; cases hF; obtain rfl := wnxt_brk hO947
    exact ⟨_, G980, rfl, (hg949.trans hg983), hE.keep ⟨rfl, rfl, rfl, rfl, trivial⟩, hI⟩
  replace hF := ct hb1043 hF; refine c_skip ?_; refine xT ?_; refine c_seq ?_; refine c_block ?_; refine c_reg ?_; refine run tt_ok 3 hE rfl fun a hE => ?_
  obtain ⟨b1006, o1007, cs, hb1016, hR1009, hA1008⟩ := sl_at (h3.mono ((((hg703.trans hg722).trans hg744).trans hg949).trans hg983)) (getO_some hy734).1 (getO_some hy734).2
  obtain ⟨A1010, c1011, A1013, c1014, rfl, h1012, h1015⟩ := TNode.inv.1 hR1009; refine s_rt hI hE rfl (f_idx tt_ok hb1016 rfl rfl rfl) rfl fun a hE => ?_; refine run tt_ok 1 hE rfl fun a hE => ?_
  refine s_rt hI hE rfl (f_loadG tt_ok hA1008 4 rfl rfl rfl rfl) rfl fun a hE => ?_; refine run tt_ok 1 hE rfl fun a hE => ?_; obtain ⟨y1021, hy1022, hF⟩ := bd hF
  obtain ⟨b1017, o1018, cs, hb1038, hR1020, hA1019⟩ := sl_at h1015 (getO_some hy1022).1 (getO_some hy1022).2
  obtain ⟨A1023, c1024, A1026, c1027, A1029, c1030, A1032, c1033, A1035, c1036, rfl, h1025, h1028, h1031, h1034, h1037⟩ := TPlan.inv.1 hR1020; refine s_rt hI hE rfl (f_idx tt_ok hb1038 rfl rfl rfl) rfl fun a hE => ?_
  refine s_rt hI hE rfl (f_loadG tt_ok hA1019 0 rfl rfl rfl rfl) rfl fun a hE => ?_; refine run tt_ok 2 hE rfl fun a hE => ?_; obtain ⟨y1039, hy1040, hF⟩ := bd hF
  refine s_call0 cl_25 hI hE rfl rfl (hs_law10_WeighPlan _ _ _ hy1040 _ _ _ hI.pass0 (TPlan.inv.2 ⟨A1023, c1024, A1026, c1027, A1029, c1030, A1032, c1033, A1035, c1036, rfl, h1025, h1028, h1031, h1034, h1037⟩)) rfl ?_; clear hE hI
  rintro a w _ G1042 _ ⟨rfl, rfl⟩ hg1041 hI hE; refine run tt_ok 2 hE rfl fun a hE => ?_; refine c_end ?_; refine xB ?_; refine xT ?_; refine c_reg ?_; refine run tt_ok 3 hE rfl fun a hE => ?_; refine c_end ?_; refine xT ?_
  cases hF; exact ⟨m956, Nat.lt_succ_self _, _, G1042, hO947, ((hg949.trans hg983).trans hg1041), hE.keep ⟨rfl, rfl, rfl, rfl, rfl, trivial⟩, hI⟩

theorem law10_WeighPlan.ok_all : ∀ k, law10_WeighPlan.C (law10_WeighPlan k) ∧ law10_weighNodes.C (law10_weighNodes k)
  | 0 => ⟨(fun _ _ _ h => (by cases h)), (fun _ _ _ h => (by cases h))⟩
  | k + 1 => by
    have h := law10_WeighPlan.ok_all k
    exact ⟨law10_WeighPlan.F_ok k (law10_WeighPlan k) (law10_weighNodes k) h.1 h.2, law10_weighNodes.F_ok k (law10_WeighPlan k) (law10_weighNodes k) h.1 h.2⟩

theorem law10_WeighPlan.ok (k : Nat) : law10_WeighPlan.C (law10_WeighPlan k) := (law10_WeighPlan.ok_all k).1

theorem law10_weighNodes.ok (k : Nat) : law10_weighNodes.C (law10_weighNodes k) := (law10_WeighPlan.ok_all k).2

theorem cl_52 : Callable Try.prog 52 := ⟨_, Try.func52, by kernel_rfl, by kernel_rfl⟩

def weigh_kids.C (s : Int → Option Int) : Prop := ∀ (p0 : Int) (r : Int), s p0 = some r → ∀ (w0 : World) (G0 : GH) , Inv w0 G0 [] G0 [] w0 → Calls Try.prog 52 #[.int .i64 p0] w0 (Ret w0 G0 [] fun G' L' v => L' = [] ∧ v = .int .i64 r)

theorem weigh_kids.ok (k : Nat) : weigh_kids.C (weigh_kids k) := by
  intro p0 r hF w0 G0  hI 
  unfold weigh_kids at hF
  refine calls_of_wp Try.func52 rfl ?_
  have hE : Env _ 24 [(0, .int .i64 p0)] := Env.start ⟨[.int .i64 p0]⟩ 23
  refine c_seq ?_; refine c_reg ?_; refine run tt_ok 1 hE rfl fun a hE => ?_; refine c_end ?_; refine xT ?_; refine c_seq ?_; refine c_seq ?_; refine c_reg ?_; refine run tt_ok 1 hE rfl fun a hE => ?_; refine c_end ?_
  refine xT ?_; refine c_cut (fun a' w' => ∃ (m214 : Unit), weigh_kids.j0 k m214 = some r ∧ ∃ (G213 : GH), G0.le G213 ∧ Env a' 24 [] ∧ Inv w0 G0 [] G213 [] w') ?_ ?_; rotate_left
  · clear hE hI hF; rintro a w ⟨m214, hF, G213, hg215, hE, hI⟩; unfold weigh_kids.j0 at hF; refine xT ?_; refine c_seq ?_; refine c_reg ?_; refine run tt_ok 1 hE rfl fun a hE => ?_; refine c_end ?_; refine xT ?_
    refine c_ret ?_; cases hF; refine r_ret (v := _) hE rfl ⟨_, _, _, rfl, hI.nil, rfl, rfl⟩
  refine c_block ?_; refine c_seq ?_; refine c_cut (fun a' w' => ∃ (m322 : Unit), weigh_kids.j1 k m322 = some r ∧ ∃ (G321 : GH), G0.le G321 ∧ Env a' 24 [] ∧ Inv w0 G0 [] G321 [] w') ?_ ?_; rotate_left
  · clear hE hI hF; rintro a w ⟨m322, hF, G321, hg323, hE, hI⟩; unfold weigh_kids.j1 at hF; refine xT ?_; refine c_seq ?_; refine c_seq ?_; refine c_reg ?_; refine run tt_ok 1 hE rfl fun a hE => ?_; refine c_end ?_
    refine xT ?_; refine c_ret ?_; refine xTr ?_; refine xBr ?_; refine xTr ?_; refine xTr ?_; cases hF; refine r_ret (v := _) hE rfl ⟨_, _, _, rfl, hI.nil, rfl, rfl⟩
  refine c_block ?_; refine c_block ?_; refine c_seq ?_; refine c_cut (fun a' w' => ∃ (m376 : Unit), weigh_kids.j2 k m376 = some r ∧ ∃ (G375 : GH), G0.le G375 ∧ Env a' 24 [] ∧ Inv w0 G0 [] G375 [] w') ?_ ?_; rotate_left
  · clear hE hI hF; rintro a w ⟨m376, hF, G375, hg377, hE, hI⟩; unfold weigh_kids.j2 at hF; refine xT ?_; refine c_seq ?_; refine c_seq ?_; refine c_reg ?_; refine run tt_ok 1 hE rfl fun a hE => ?_; refine c_end ?_
    refine xT ?_; refine c_ret ?_; refine xTr ?_; refine xBr ?_; refine xBr ?_; refine xTr ?_; refine xTr ?_; refine xBr ?_; refine xTr ?_; refine xTr ?_; cases hF
    refine r_ret (v := _) hE rfl ⟨_, _, _, rfl, hI.nil, rfl, rfl⟩
  refine c_block ?_; refine c_block ?_; refine c_seq ?_; refine c_block ?_; refine c_seq ?_; refine c_seq ?_; refine c_seq ?_; refine c_seq ?_; refine c_reg ?_; refine run tt_ok 2 hE rfl fun a hE => ?_; refine c_end ?_
  refine xT ?_; obtain ⟨m383, hF, hR385⟩ := bd hF; refine c_cut (fun a' w' => ∃ (G381 : GH), G0.le G381 ∧ Env a' 24 [(3, .int .i64 p0), (4, .bool m383)] ∧ Inv w0 G0 [] G381 [] w') ?_ ?_
  · refine c_if (b := decide (p0 = (1 : Int))) hE rfl (fun hb428 => ?_) (fun hb428 => ?_)
    · replace hF := ct hb428 hF; refine c_skip ?_; refine xT ?_; cases hF; exact ⟨G0, (GH.le.refl _), hE.keep ⟨rfl, rfl, trivial⟩, hI⟩
    replace hF := cf hb428 hF; refine c_seq ?_; refine c_reg ?_; refine run tt_ok 2 hE rfl fun a hE => ?_; refine c_end ?_; refine xT ?_; refine c_if (b := decide (p0 = (2 : Int))) hE rfl (fun hb427 => ?_) (fun hb427 => ?_)
    · replace hF := ct hb427 hF; refine c_skip ?_; refine xT ?_; cases hF; exact ⟨G0, (GH.le.refl _), hE.keep ⟨rfl, rfl, trivial⟩, hI⟩
    replace hF := cf hb427 hF; refine c_reg ?_; refine run tt_ok 2 hE rfl fun a hE => ?_; refine c_end ?_; refine xT ?_; cases hF; exact ⟨G0, (GH.le.refl _), hE.keep ⟨rfl, rfl, trivial⟩, hI⟩
  clear hE hI; rintro a w ⟨G381, hg384, hE, hI⟩; clear hF; have hF := hR385; clear hR385; refine xT ?_; refine c_if (b := m383) hE rfl (fun hb426 => ?_) (fun hb426 => ?_)
  · replace hF := ct hb426 hF; refine c_exit ?_; refine xTe ?_; refine xTe ?_; refine xBh ?_; refine xT ?_; refine c_seq ?_; refine c_seq ?_; refine c_reg ?_; refine run tt_ok 1 hE rfl fun a hE => ?_; refine c_end ?_
    refine xT ?_; refine c_ret ?_; refine xTr ?_; refine xBr ?_; refine xBr ?_; refine xTr ?_; refine xTr ?_; refine xBr ?_; refine xBr ?_; refine xTr ?_; refine xTr ?_; refine xBr ?_; refine xTr ?_; refine xTr ?_; cases hF
    refine r_ret (v := _) hE rfl ⟨_, _, _, rfl, hI.nil, rfl, rfl⟩
  replace hF := cf hb426 hF; refine c_skip ?_; refine xT ?_; refine c_seq ?_; refine c_seq ?_; refine c_seq ?_; refine c_reg ?_; refine run tt_ok 2 hE rfl fun a hE => ?_; refine c_end ?_; refine xT ?_
  obtain ⟨m390, hF, hR392⟩ := bd hF; refine c_cut (fun a' w' => ∃ (G388 : GH), G381.le G388 ∧ Env a' 24 [(3, .int .i64 p0), (8, .bool m390)] ∧ Inv w0 G0 [] G388 [] w') ?_ ?_
  · refine c_if (b := decide (p0 = (4 : Int))) hE rfl (fun hb425 => ?_) (fun hb425 => ?_)
    · replace hF := ct hb425 hF; refine c_skip ?_; refine xT ?_; cases hF; exact ⟨G381, (GH.le.refl _), hE.keep ⟨rfl, rfl, trivial⟩, hI⟩
    replace hF := cf hb425 hF; refine c_seq ?_; refine c_reg ?_; refine run tt_ok 2 hE rfl fun a hE => ?_; refine c_end ?_; refine xT ?_; refine c_if (b := decide (p0 = (5 : Int))) hE rfl (fun hb424 => ?_) (fun hb424 => ?_)
    · replace hF := ct hb424 hF; refine c_skip ?_; refine xT ?_; cases hF; exact ⟨G381, (GH.le.refl _), hE.keep ⟨rfl, rfl, trivial⟩, hI⟩
    replace hF := cf hb424 hF; refine c_reg ?_; refine run tt_ok 2 hE rfl fun a hE => ?_; refine c_end ?_; refine xT ?_; cases hF; exact ⟨G381, (GH.le.refl _), hE.keep ⟨rfl, rfl, trivial⟩, hI⟩
  clear hE hI; rintro a w ⟨G388, hg391, hE, hI⟩; clear hF; have hF := hR392; clear hR392; refine xT ?_; refine c_if (b := m390) hE rfl (fun hb423 => ?_) (fun hb423 => ?_)
  · replace hF := ct hb423 hF; refine c_exit ?_; refine xTe ?_; refine xTe ?_; refine xBm rfl ?_; refine xTe ?_; refine xBh ?_; refine xB ?_; refine xT ?_; exact ⟨_, hF, G388, (hg384.trans hg391), hE.keep trivial, hI⟩
  replace hF := cf hb423 hF; refine c_skip ?_; refine xT ?_; refine c_seq ?_; refine c_seq ?_; refine c_seq ?_; refine c_reg ?_; refine run tt_ok 2 hE rfl fun a hE => ?_; refine c_end ?_; refine xT ?_
  obtain ⟨m397, hF, hR399⟩ := bd hF; refine c_cut (fun a' w' => ∃ (G395 : GH), G388.le G395 ∧ Env a' 24 [(3, .int .i64 p0), (12, .bool m397)] ∧ Inv w0 G0 [] G395 [] w') ?_ ?_
  · refine c_if (b := decide (p0 = (9 : Int))) hE rfl (fun hb422 => ?_) (fun hb422 => ?_)
    · replace hF := ct hb422 hF; refine c_skip ?_; refine xT ?_; cases hF; exact ⟨G388, (GH.le.refl _), hE.keep ⟨rfl, rfl, trivial⟩, hI⟩
    replace hF := cf hb422 hF; refine c_seq ?_; refine c_reg ?_; refine run tt_ok 2 hE rfl fun a hE => ?_; refine c_end ?_; refine xT ?_; refine c_if (b := decide (p0 = (10 : Int))) hE rfl (fun hb421 => ?_) (fun hb421 => ?_)
    · replace hF := ct hb421 hF; refine c_skip ?_; refine xT ?_; cases hF; exact ⟨G388, (GH.le.refl _), hE.keep ⟨rfl, rfl, trivial⟩, hI⟩
    replace hF := cf hb421 hF; refine c_reg ?_; refine run tt_ok 2 hE rfl fun a hE => ?_; refine c_end ?_; refine xT ?_; cases hF; exact ⟨G388, (GH.le.refl _), hE.keep ⟨rfl, rfl, trivial⟩, hI⟩
  clear hE hI; rintro a w ⟨G395, hg398, hE, hI⟩; clear hF; have hF := hR399; clear hR399; refine xT ?_; refine c_if (b := m397) hE rfl (fun hb420 => ?_) (fun hb420 => ?_)
  · replace hF := ct hb420 hF; refine c_exit ?_; refine xTe ?_; refine xTe ?_; refine xBm rfl ?_; refine xTe ?_; refine xBm rfl ?_; refine xBh ?_; refine xT ?_
    exact ⟨_, hF, G395, ((hg384.trans hg391).trans hg398), hE.keep trivial, hI⟩
  replace hF := cf hb420 hF; refine c_skip ?_; refine xT ?_; refine c_seq ?_; refine c_seq ?_; refine c_seq ?_; refine c_reg ?_; refine run tt_ok 2 hE rfl fun a hE => ?_; refine c_end ?_; refine xT ?_
  obtain ⟨m404, hF, hR406⟩ := bd hF; refine c_cut (fun a' w' => ∃ (G402 : GH), G395.le G402 ∧ Env a' 24 [(3, .int .i64 p0), (16, .bool m404)] ∧ Inv w0 G0 [] G402 [] w') ?_ ?_
  · refine c_if (b := decide (p0 = (6 : Int))) hE rfl (fun hb419 => ?_) (fun hb419 => ?_)
    · replace hF := ct hb419 hF; refine c_skip ?_; refine xT ?_; cases hF; exact ⟨G395, (GH.le.refl _), hE.keep ⟨rfl, rfl, trivial⟩, hI⟩
    replace hF := cf hb419 hF; refine c_seq ?_; refine c_reg ?_; refine run tt_ok 2 hE rfl fun a hE => ?_; refine c_end ?_; refine xT ?_; refine c_if (b := decide (p0 = (7 : Int))) hE rfl (fun hb418 => ?_) (fun hb418 => ?_)
    · replace hF := ct hb418 hF; refine c_skip ?_; refine xT ?_; cases hF; exact ⟨G395, (GH.le.refl _), hE.keep ⟨rfl, rfl, trivial⟩, hI⟩
    replace hF := cf hb418 hF; refine c_reg ?_; refine run tt_ok 2 hE rfl fun a hE => ?_; refine c_end ?_; refine xT ?_; cases hF; exact ⟨G395, (GH.le.refl _), hE.keep ⟨rfl, rfl, trivial⟩, hI⟩
  clear hE hI; rintro a w ⟨G402, hg405, hE, hI⟩; clear hF; have hF := hR406; clear hR406; refine xT ?_; refine c_if (b := m404) hE rfl (fun hb417 => ?_) (fun hb417 => ?_)
  · replace hF := ct hb417 hF; refine c_exit ?_; refine xTe ?_; refine xTe ?_; refine xBm rfl ?_; refine xTe ?_; refine xBm rfl ?_; refine xBm rfl ?_; refine xTe ?_; refine xTe ?_; refine xBh ?_; refine xB ?_; refine xT ?_
    exact ⟨_, hF, G402, (((hg384.trans hg391).trans hg398).trans hg405), hE.keep trivial, hI⟩
  replace hF := cf hb417 hF; refine c_skip ?_; refine xT ?_; refine c_seq ?_; refine c_seq ?_; refine c_reg ?_; refine run tt_ok 2 hE rfl fun a hE => ?_; refine c_end ?_; refine xT ?_; obtain ⟨m411, hF, hR413⟩ := bd hF
  refine c_cut (fun a' w' => ∃ (G409 : GH), G402.le G409 ∧ Env a' 24 [(20, .bool m411)] ∧ Inv w0 G0 [] G409 [] w') ?_ ?_
  · refine c_if (b := decide (p0 = (12 : Int))) hE rfl (fun hb416 => ?_) (fun hb416 => ?_)
    · replace hF := ct hb416 hF; refine c_skip ?_; refine xT ?_; cases hF; exact ⟨G402, (GH.le.refl _), hE.keep ⟨rfl, trivial⟩, hI⟩
    replace hF := cf hb416 hF; refine c_seq ?_; refine c_reg ?_; refine run tt_ok 2 hE rfl fun a hE => ?_; refine c_end ?_; refine xT ?_; refine c_if (b := decide (p0 = (14 : Int))) hE rfl (fun hb415 => ?_) (fun hb415 => ?_)
    · replace hF := ct hb415 hF; refine c_skip ?_; refine xT ?_; cases hF; exact ⟨G402, (GH.le.refl _), hE.keep ⟨rfl, trivial⟩, hI⟩
    replace hF := cf hb415 hF; refine c_reg ?_; refine run tt_ok 2 hE rfl fun a hE => ?_; refine c_end ?_; refine xT ?_; cases hF; exact ⟨G402, (GH.le.refl _), hE.keep ⟨rfl, trivial⟩, hI⟩
  clear hE hI; rintro a w ⟨G409, hg412, hE, hI⟩; clear hF; have hF := hR413; clear hR413; refine xT ?_; refine c_if (b := m411) hE rfl (fun hb414 => ?_) (fun hb414 => ?_)
  · replace hF := ct hb414 hF; refine c_exit ?_; refine xTe ?_; refine xBm rfl ?_; refine xTe ?_; refine xBm rfl ?_; refine xBm rfl ?_; refine xTe ?_; refine xTe ?_; refine xBm rfl ?_; refine xBh ?_; refine xT ?_
    exact ⟨_, hF, G409, ((((hg384.trans hg391).trans hg398).trans hg405).trans hg412), hE.keep trivial, hI⟩
  replace hF := cf hb414 hF; refine c_skip ?_; refine xT ?_; refine c_exit ?_; refine xBm rfl ?_; refine xTe ?_; refine xBm rfl ?_; refine xBm rfl ?_; refine xTe ?_; refine xTe ?_; refine xBm rfl ?_; refine xBm rfl ?_
  refine xTe ?_; refine xTe ?_; refine xBh ?_; refine xT ?_; exact ⟨_, hF, G409, ((((hg384.trans hg391).trans hg398).trans hg405).trans hg412), hE.keep trivial, hI⟩

theorem cl_79 : Callable Try.prog 79 := ⟨_, Try.func79, by kernel_rfl, by kernel_rfl⟩

def plane_At.C (s : Int → Int → Option ((Nat × Nat) × Int)) : Prop := ∀ (p0 : Int) (p1 : Int) (r : (Nat × Nat) × Int), s p0 p1 = some r → ∀ (w0 : World) (G0 : GH) , Inv w0 G0 [] G0 [] w0 → Calls Try.prog 79 #[.int .i64 p0, .int .i64 p1] w0 (Ret w0 G0 [] fun G' L' v => L' = [] ∧ v = .tuple ⟨[.complex .f64 r.1.1 r.1.2, .int .i64 r.2]⟩)

theorem plane_At.ok (k : Nat) : plane_At.C (plane_At k) := by
  intro p0 p1 r hF w0 G0  hI 
  unfold plane_At at hF
  refine calls_of_wp Try.func79 rfl ?_
  have hE : Env _ 25 [(0, .int .i64 p0), (1, .int .i64 p1)] := Env.start ⟨[.int .i64 p0, .int .i64 p1]⟩ 23
  refine c_seq ?_; refine c_reg ?_; refine run tt_ok 2 hE rfl fun a hE => ?_; refine c_end ?_; refine xT ?_; refine c_seq ?_; refine c_seq ?_; obtain ⟨m6, hF, hR8⟩ := bd hF
  refine c_cut (fun a' w' => ∃ (G4 : GH), G0.le G4 ∧ Env a' 25 [(0, .int .i64 p0), (1, .int .i64 p1), (19, .bool m6)] ∧ Inv w0 G0 [] G4 [] w') ?_ ?_; rotate_left
  · clear hE hI; rintro a w ⟨G4, hg7, hE, hI⟩; clear hF; have hF := hR8; clear hR8; refine xT ?_; refine c_if (b := m6) hE rfl (fun hb9 => ?_) (fun hb9 => ?_)
    · replace hF := ct hb9 hF; refine c_seq ?_; refine c_reg ?_; refine run tt_ok 2 hE rfl fun a hE => ?_; refine c_end ?_; refine xT ?_; refine c_ret ?_; refine xTr ?_; cases hF
      refine r_ret (v := _) hE rfl ⟨_, _, _, rfl, hI.nil, rfl, rfl⟩
    replace hF := cf hb9 hF; refine c_skip ?_; refine xT ?_; refine c_seq ?_; refine c_reg ?_; refine run tt_ok 1 hE rfl fun a hE => ?_; refine s_rt hI hE rfl (f_i2f us_3 uf_99 rfl) rfl fun a hE => ?_
    refine run tt_ok 1 hE rfl fun a hE => ?_; refine s_rt hI hE rfl (f_i2f us_3 uf_99 rfl) rfl fun a hE => ?_; refine s_rt hI hE rfl (f_cplx rfl rfl) rfl fun a hE => ?_; refine run tt_ok 2 hE rfl fun a hE => ?_
    refine c_end ?_; refine xT ?_; refine c_ret ?_; cases hF; refine r_ret (v := _) hE rfl ⟨_, _, _, rfl, hI.nil, rfl, rfl⟩
  refine c_reg ?_; refine run tt_ok 3 hE rfl fun a hE => ?_; rcases bool_or (decide (p0 < (0 : Int))) with hb10 | hb10
  · replace hF := ct hb10 hF; have hE := hE.tr (t := 8) rfl hb10; clear hb10; refine run tt_ok 11 hE rfl fun a hE => ?_; refine c_end ?_; refine xT ?_; cases hF
    exact ⟨G0, (GH.le.refl _), hE.keep ⟨rfl, rfl, rfl, trivial⟩, hI⟩
  replace hF := cf hb10 hF; have hE := hE.tr (t := 8) rfl hb10; clear hb10; refine run tt_ok 4 hE rfl fun a hE => ?_; rcases bool_or (decide ((1099511627776 : Int) < p0)) with hb11 | hb11
  · replace hF := ct hb11 hF; have hE := hE.tr (t := 12) rfl hb11; clear hb11; refine run tt_ok 7 hE rfl fun a hE => ?_; refine c_end ?_; refine xT ?_; cases hF
    exact ⟨G0, (GH.le.refl _), hE.keep ⟨rfl, rfl, rfl, trivial⟩, hI⟩
  replace hF := cf hb11 hF; have hE := hE.tr (t := 12) rfl hb11; clear hb11; refine run tt_ok 4 hE rfl fun a hE => ?_; rcases bool_or (decide (p1 < (0 : Int))) with hb12 | hb12
  · replace hF := ct hb12 hF; have hE := hE.tr (t := 16) rfl hb12; clear hb12; refine run tt_ok 3 hE rfl fun a hE => ?_; refine c_end ?_; refine xT ?_; cases hF
    exact ⟨G0, (GH.le.refl _), hE.keep ⟨rfl, rfl, rfl, trivial⟩, hI⟩
  replace hF := cf hb12 hF; have hE := hE.tr (t := 16) rfl hb12; clear hb12; refine run tt_ok 3 hE rfl fun a hE => ?_; refine c_end ?_; refine xT ?_; cases hF
  exact ⟨G0, (GH.le.refl _), hE.keep ⟨rfl, rfl, rfl, trivial⟩, hI⟩

theorem cl_53 : Callable Try.prog 53 := ⟨_, Try.func53, by kernel_rfl, by kernel_rfl⟩

def weigh_cost.C (s : Int → Int → Option (Nat × Nat)) : Prop := ∀ (p0 : Int) (p1 : Int) (r : (Nat × Nat)), s p0 p1 = some r → ∀ (w0 : World) (G0 : GH) , Inv w0 G0 [] G0 [] w0 → Calls Try.prog 53 #[.int .i64 p0, .int .i64 p1] w0 (Ret w0 G0 [] fun G' L' v => L' = [] ∧ v = .complex .f64 r.1 r.2)

theorem weigh_cost.ok (k : Nat) : weigh_cost.C (weigh_cost k) := by
  intro p0 p1 r hF w0 G0  hI 
  unfold weigh_cost at hF
  refine calls_of_wp Try.func53 rfl ?_
  have hE : Env _ 18 [(0, .int .i64 p0), (1, .int .i64 p1)] := Env.start ⟨[.int .i64 p0, .int .i64 p1]⟩ 16
  refine c_seq ?_; refine c_reg ?_; refine run tt_ok 1 hE rfl fun a hE => ?_; refine c_end ?_; refine xT ?_; refine c_seq ?_; refine c_reg ?_; refine run tt_ok 6 hE rfl fun a hE => ?_; obtain ⟨y3, hy4, hF⟩ := bd hF
  refine s_call0 cl_79 hI hE rfl rfl ((plane_At.ok k) _ _ _ hy4 _ _  hI.pass0 ) rfl ?_; clear hE hI; rintro a w _ G6 _ ⟨rfl, rfl⟩ hg5 hI hE; refine run tt_ok 5 hE rfl fun a hE => ?_; refine c_end ?_; refine xT ?_
  refine c_seq ?_; refine c_reg ?_; refine run tt_ok 2 hE rfl fun a hE => ?_; refine c_end ?_; refine xT ?_; refine c_ret ?_; cases hF; refine r_ret (v := _) hE rfl ⟨_, _, _, rfl, hI.nil, rfl, rfl⟩

theorem cl_54 : Callable Try.prog 54 := ⟨_, Try.func54, by kernel_rfl, by kernel_rfl⟩

def weigh_size.C (s : (List Int) → Int → Option Int) : Prop := ∀ (p0 : List Int) (p1 : Int) (r : Int), s p0 p1 = some r → ∀ (w0 : World) (G0 : GH) (A1 : Option Addr) (c2 : Nat), Inv w0 G0 [] G0 [] w0 → (Sl G0 A1 c2 1 (p0.map (D.int .i64))) → Calls Try.prog 54 #[.slice A1 p0.length c2, .int .i64 p1] w0 (Ret w0 G0 [] fun G' L' v => L' = [] ∧ v = .int .i64 r)

theorem weigh_size.ok (k : Nat) : weigh_size.C (weigh_size k) := by
  intro p0 p1 r hF w0 G0 A1 c2 hI h3
  unfold weigh_size at hF
  refine calls_of_wp Try.func54 rfl ?_
  have hE : Env _ 19 [(0, .slice A1 p0.length c2), (1, .int .i64 p1)] := Env.start ⟨[.slice A1 p0.length c2, .int .i64 p1]⟩ 17
  refine c_seq ?_; refine c_reg ?_; refine run tt_ok 1 hE rfl fun a hE => ?_; refine c_end ?_; refine xT ?_; refine c_seq ?_; refine c_seq ?_; obtain ⟨m7, hF, hR9⟩ := bd hF
  refine c_cut (fun a' w' => ∃ (G5 : GH), G0.le G5 ∧ Env a' 19 [(0, .slice A1 p0.length c2), (1, .int .i64 p1), (12, .bool m7)] ∧ Inv w0 G0 [] G5 [] w') ?_ ?_
  · refine c_reg ?_; refine run tt_ok 3 hE rfl fun a hE => ?_; rcases bool_or (decide (p1 < (0 : Int))) with hb19 | hb19
    · replace hF := ct hb19 hF; have hE := hE.tr (t := 7) rfl hb19; clear hb19; refine run tt_ok 5 hE rfl fun a hE => ?_; refine c_end ?_; refine xT ?_; cases hF; exact ⟨G0, (GH.le.refl _), hE.keep ⟨rfl, rfl, rfl, trivial⟩, hI⟩
    replace hF := cf hb19 hF; have hE := hE.tr (t := 7) rfl hb19; clear hb19; refine run tt_ok 5 hE rfl fun a hE => ?_; refine c_end ?_; refine xT ?_; cases hF; exact ⟨G0, (GH.le.refl _), hE.keep ⟨rfl, rfl, rfl, trivial⟩, hI⟩
  clear hE hI; rintro a w ⟨G5, hg8, hE, hI⟩; clear hF; have hF := hR9; clear hR9; refine xT ?_; refine c_if (b := m7) hE rfl (fun hb18 => ?_) (fun hb18 => ?_)
  · replace hF := ct hb18 hF; refine c_seq ?_; refine c_reg ?_; refine run tt_ok 1 hE rfl fun a hE => ?_; refine c_end ?_; refine xT ?_; refine c_ret ?_; refine xTr ?_; cases hF
    refine r_ret (v := _) hE rfl ⟨_, _, _, rfl, hI.nil, rfl, rfl⟩
  replace hF := cf hb18 hF; refine c_skip ?_; refine xT ?_; refine c_seq ?_; refine c_reg ?_; refine run tt_ok 2 hE rfl fun a hE => ?_; obtain ⟨y15, hy16, hF⟩ := bd hF
  obtain ⟨b11, o12, cs, hb17, hR14, hA13⟩ := sl_at (h3.mono hg8) (getO_some hy16).1 (getO_some hy16).2; obtain rfl := rep_int.1 hR14; refine s_rt hI hE rfl (f_idx tt_ok hb17 rfl rfl rfl) rfl fun a hE => ?_
  refine s_rt hI hE rfl (f_loadG tt_ok hA13 0 rfl rfl rfl rfl) rfl fun a hE => ?_; refine run tt_ok 3 hE rfl fun a hE => ?_; refine c_end ?_; refine xT ?_; refine c_ret ?_; cases hF
  refine r_ret (v := _) hE rfl ⟨_, _, _, rfl, hI.nil, rfl, rfl⟩

theorem cl_83 : Callable Try.prog 83 := ⟨_, Try.func83, by kernel_rfl, by kernel_rfl⟩

def math_Trunc.C (s : Nat → Option Nat) : Prop := ∀ (p0 : Nat) (r : Nat), s p0 = some r → ∀ (w0 : World) (G0 : GH) , Inv w0 G0 [] G0 [] w0 → Calls Try.prog 83 #[.float .f64 p0] w0 (Ret w0 G0 [] fun G' L' v => L' = [] ∧ v = .float .f64 r)

theorem math_Trunc.ok (k : Nat) : math_Trunc.C (math_Trunc k) := by
  intro p0 r hF w0 G0  hI 
  unfold math_Trunc at hF
  refine calls_of_wp Try.func83 rfl ?_
  have hE : Env _ 7 [(0, .float .f64 p0)] := Env.start ⟨[.float .f64 p0]⟩ 6
  refine c_seq ?_; refine c_reg ?_; refine run tt_ok 1 hE rfl fun a hE => ?_; refine c_end ?_; refine xT ?_; refine c_seq ?_; refine c_true hE rfl ?_; refine c_seq ?_; refine c_reg ?_
  refine run tt_ok 1 hE rfl fun a hE => ?_; obtain ⟨z1, hz2, hF⟩ := bd hF; refine s_rt hI hE rfl (f_trunc xf_87 xn_87 xb_87 xe_87 xt_87 rfl hz2) rfl fun a hE => ?_; refine run tt_ok 1 hE rfl fun a hE => ?_; refine c_end ?_
  refine xT ?_; refine c_ret ?_; refine xTr ?_; cases hF; refine r_ret (v := _) hE rfl ⟨_, _, _, rfl, hI.nil, rfl, rfl⟩

theorem cl_67 : Callable Try.prog 67 := ⟨_, Try.func67, by kernel_rfl, by kernel_rfl⟩

def plane_whole.C (s : Nat → Option Bool) : Prop := ∀ (p0 : Nat) (r : Bool), s p0 = some r → ∀ (w0 : World) (G0 : GH) , Inv w0 G0 [] G0 [] w0 → Calls Try.prog 67 #[.float .f64 p0] w0 (Ret w0 G0 [] fun G' L' v => L' = [] ∧ v = .bool r)

theorem plane_whole.ok (k : Nat) : plane_whole.C (plane_whole k) := by
  intro p0 r hF w0 G0  hI 
  unfold plane_whole at hF
  refine calls_of_wp Try.func67 rfl ?_
  have hE : Env _ 15 [(0, .float .f64 p0)] := Env.start ⟨[.float .f64 p0]⟩ 14
  refine c_seq ?_; refine c_reg ?_; refine run tt_ok 1 hE rfl fun a hE => ?_; refine c_end ?_; refine xT ?_; refine c_seq ?_; obtain ⟨m10, hF, hR12⟩ := bd hF
  refine c_cut (fun a' w' => ∃ (G8 : GH), G0.le G8 ∧ Env a' 15 [(2, .bool m10)] ∧ Inv w0 G0 [] G8 [] w') ?_ ?_; rotate_left
  · clear hE hI; rintro a w ⟨G8, hg11, hE, hI⟩; clear hF; have hF := hR12; clear hR12; refine xT ?_; refine c_ret ?_; cases hF; refine r_ret (v := _) hE rfl ⟨_, _, _, rfl, hI.nil, rfl, rfl⟩
  refine c_reg ?_; refine run tt_ok 1 hE rfl fun a hE => ?_; refine s_rt hI hE rfl (f_fge rfl rfl) rfl fun a hE => ?_; refine run tt_ok 1 hE rfl fun a hE => ?_; rcases bool_or (fge p0 (0 : Nat)) with hb13 | hb13
  rotate_left
  · replace hF := cf hb13 hF; have hE := hE.tr (t := 5) rfl hb13; clear hb13; refine run tt_ok 10 hE rfl fun a hE => ?_; refine c_end ?_; refine xT ?_; cases hF; exact ⟨G0, (GH.le.refl _), hE.keep ⟨rfl, trivial⟩, hI⟩
  replace hF := ct hb13 hF; have hE := hE.tr (t := 5) rfl hb13; clear hb13; refine run tt_ok 1 hE rfl fun a hE => ?_; refine s_rt hI hE rfl (f_fle rfl rfl) rfl fun a hE => ?_; refine run tt_ok 2 hE rfl fun a hE => ?_
  rcases bool_or (fle p0 (4787326403894837248 : Nat)) with hb14 | hb14; rotate_left
  · replace hF := cf hb14 hF; have hE := hE.tr (t := 9) rfl hb14; clear hb14; refine run tt_ok 6 hE rfl fun a hE => ?_; refine c_end ?_; refine xT ?_; cases hF; exact ⟨G0, (GH.le.refl _), hE.keep ⟨rfl, trivial⟩, hI⟩
  replace hF := ct hb14 hF; have hE := hE.tr (t := 9) rfl hb14; clear hb14; refine run tt_ok 2 hE rfl fun a hE => ?_; obtain ⟨y15, hy16, hF⟩ := bd hF
  refine s_call0 cl_83 hI hE rfl rfl ((math_Trunc.ok k) _ _ hy16 _ _  hI.pass0 ) rfl ?_; clear hE hI; rintro a w _ G18 _ ⟨rfl, rfl⟩ hg17 hI hE; refine s_rt hI hE rfl (f_feq uf_99 rfl rfl) rfl fun a hE => ?_
  refine run tt_ok 2 hE rfl fun a hE => ?_; refine c_end ?_; refine xT ?_; cases hF; exact ⟨G18, hg17, hE.keep ⟨rfl, trivial⟩, hI⟩

theorem cl_30 : Callable Try.prog 30 := ⟨_, Try.func30, by kernel_rfl, by kernel_rfl⟩

def plane_Right.C (s : (Nat × Nat) → Option Bool) : Prop := ∀ (p0 : (Nat × Nat)) (r : Bool), s p0 = some r → ∀ (w0 : World) (G0 : GH) , Inv w0 G0 [] G0 [] w0 → Calls Try.prog 30 #[.complex .f64 p0.1 p0.2] w0 (Ret w0 G0 [] fun G' L' v => L' = [] ∧ v = .bool r)

theorem plane_Right.ok (k : Nat) : plane_Right.C (plane_Right k) := by
  intro p0 r hF w0 G0  hI 
  unfold plane_Right at hF
  refine calls_of_wp Try.func30 rfl ?_
  have hE : Env _ 11 [(0, .complex .f64 p0.1 p0.2)] := Env.start ⟨[.complex .f64 p0.1 p0.2]⟩ 10
  refine c_seq ?_; refine c_reg ?_; refine run tt_ok 1 hE rfl fun a hE => ?_; refine c_end ?_; refine xT ?_; refine c_seq ?_; obtain ⟨m13, hF, hR15⟩ := bd hF
  refine c_cut (fun a' w' => ∃ (G11 : GH), G0.le G11 ∧ Env a' 11 [(2, .bool m13)] ∧ Inv w0 G0 [] G11 [] w') ?_ ?_; rotate_left
  · clear hE hI; rintro a w ⟨G11, hg14, hE, hI⟩; clear hF; have hF := hR15; clear hR15; refine xT ?_; refine c_ret ?_; cases hF; refine r_ret (v := _) hE rfl ⟨_, _, _, rfl, hI.nil, rfl, rfl⟩
  refine c_reg ?_; refine run tt_ok 1 hE rfl fun a hE => ?_; refine s_rt hI hE rfl (f_real (A := p0) rfl) rfl fun a hE => ?_; obtain ⟨y16, hy17, hF⟩ := bd hF
  refine s_call0 cl_67 hI hE rfl rfl ((plane_whole.ok k) _ _ hy17 _ _  hI.pass0 ) rfl ?_; clear hE hI; rintro a w _ G19 _ ⟨rfl, rfl⟩ hg18 hI hE; refine run tt_ok 1 hE rfl fun a hE => ?_; rcases bool_or y16 with hb20 | hb20
  rotate_left
  · replace hF := cf hb20 hF; have hE := hE.tr (t := 6) rfl hb20; clear hb20; refine run tt_ok 5 hE rfl fun a hE => ?_; refine c_end ?_; refine xT ?_; cases hF; exact ⟨G19, hg18, hE.keep ⟨rfl, trivial⟩, hI⟩
  replace hF := ct hb20 hF; have hE := hE.tr (t := 6) rfl hb20; clear hb20; refine run tt_ok 1 hE rfl fun a hE => ?_; refine s_rt hI hE rfl (f_imag (A := p0) rfl) rfl fun a hE => ?_; obtain ⟨y21, hy22, hF⟩ := bd hF
  refine s_call0 cl_67 hI hE rfl rfl ((plane_whole.ok k) _ _ hy22 _ _  hI.pass0 ) rfl ?_; clear hE hI; rintro a w _ G24 _ ⟨rfl, rfl⟩ hg23 hI hE; refine run tt_ok 2 hE rfl fun a hE => ?_; refine c_end ?_; refine xT ?_
  cases hF; exact ⟨G24, (hg18.trans hg23), hE.keep ⟨rfl, trivial⟩, hI⟩

theorem cl_80 : Callable Try.prog 80 := ⟨_, Try.func80, by kernel_rfl, by kernel_rfl⟩

def plane_Rows.C (s : (Nat × Nat) → Option Int) : Prop := ∀ (p0 : (Nat × Nat)) (r : Int), s p0 = some r → ∀ (w0 : World) (G0 : GH) , Inv w0 G0 [] G0 [] w0 → Calls Try.prog 80 #[.complex .f64 p0.1 p0.2] w0 (Ret w0 G0 [] fun G' L' v => L' = [] ∧ v = .int .i64 r)

theorem plane_Rows.ok (k : Nat) : plane_Rows.C (plane_Rows k) := by
  intro p0 r hF w0 G0  hI 
  unfold plane_Rows at hF
  refine calls_of_wp Try.func80 rfl ?_
  have hE : Env _ 9 [(0, .complex .f64 p0.1 p0.2)] := Env.start ⟨[.complex .f64 p0.1 p0.2]⟩ 8
  refine c_seq ?_; refine c_reg ?_; refine run tt_ok 1 hE rfl fun a hE => ?_; refine c_end ?_; refine xT ?_; refine c_seq ?_; refine c_seq ?_; refine c_reg ?_; refine run tt_ok 1 hE rfl fun a hE => ?_
  obtain ⟨y2, hy3, hF⟩ := bd hF; refine s_call0 cl_30 hI hE rfl rfl ((plane_Right.ok k) _ _ hy3 _ _  hI.pass0 ) rfl ?_; clear hE hI; rintro a w _ G5 _ ⟨rfl, rfl⟩ hg4 hI hE; refine run tt_ok 1 hE rfl fun a hE => ?_
  refine c_end ?_; refine xT ?_; refine c_if (b := !y2) hE rfl (fun hb9 => ?_) (fun hb9 => ?_)
  · replace hF := ct hb9 hF; refine c_seq ?_; refine c_reg ?_; refine run tt_ok 1 hE rfl fun a hE => ?_; refine c_end ?_; refine xT ?_; refine c_ret ?_; refine xTr ?_; cases hF
    refine r_ret (v := _) hE rfl ⟨_, _, _, rfl, hI.nil, rfl, rfl⟩
  replace hF := cf hb9 hF; refine c_skip ?_; refine xT ?_; refine c_seq ?_; refine c_reg ?_; refine run tt_ok 1 hE rfl fun a hE => ?_; refine s_rt hI hE rfl (f_imag (A := p0) rfl) rfl fun a hE => ?_
  obtain ⟨z7, hz8, hF⟩ := bd hF; refine s_rt hI hE rfl (f_f2i us_99 uk_3 rfl hz8) rfl fun a hE => ?_; refine run tt_ok 1 hE rfl fun a hE => ?_; refine c_end ?_; refine xT ?_; refine c_ret ?_; cases hF
  refine r_ret (v := _) hE rfl ⟨_, _, _, rfl, hI.nil, rfl, rfl⟩

theorem cl_55 : Callable Try.prog 55 := ⟨_, Try.func55, by kernel_rfl, by kernel_rfl⟩

def weigh_rowsOf.C (s : (Nat × Nat) → Option (Nat × Nat)) : Prop := ∀ (p0 : (Nat × Nat)) (r : (Nat × Nat)), s p0 = some r → ∀ (w0 : World) (G0 : GH) , Inv w0 G0 [] G0 [] w0 → Calls Try.prog 55 #[.complex .f64 p0.1 p0.2] w0 (Ret w0 G0 [] fun G' L' v => L' = [] ∧ v = .complex .f64 r.1 r.2)

theorem weigh_rowsOf.ok (k : Nat) : weigh_rowsOf.C (weigh_rowsOf k) := by
  intro p0 r hF w0 G0  hI 
  unfold weigh_rowsOf at hF
  refine calls_of_wp Try.func55 rfl ?_
  have hE : Env _ 8 [(0, .complex .f64 p0.1 p0.2)] := Env.start ⟨[.complex .f64 p0.1 p0.2]⟩ 7
  refine c_seq ?_; refine c_reg ?_; refine run tt_ok 1 hE rfl fun a hE => ?_; refine c_end ?_; refine xT ?_; refine c_seq ?_; refine c_reg ?_; refine run tt_ok 1 hE rfl fun a hE => ?_; obtain ⟨y3, hy4, hF⟩ := bd hF
  refine s_call0 cl_80 hI hE rfl rfl ((plane_Rows.ok k) _ _ hy4 _ _  hI.pass0 ) rfl ?_; clear hE hI; rintro a w _ G6 _ ⟨rfl, rfl⟩ hg5 hI hE; refine run tt_ok 1 hE rfl fun a hE => ?_; obtain ⟨y7, hy8, hF⟩ := bd hF
  refine s_call0 cl_80 hI hE rfl rfl ((plane_Rows.ok k) _ _ hy8 _ _  hI.pass0 ) rfl ?_; clear hE hI; rintro a w _ G10 _ ⟨rfl, rfl⟩ hg9 hI hE; obtain ⟨y11, hy12, hF⟩ := bd hF
  refine s_call0 cl_53 hI hE rfl rfl ((weigh_cost.ok k) _ _ _ hy12 _ _  hI.pass0 ) rfl ?_; clear hE hI; rintro a w _ G14 _ ⟨rfl, rfl⟩ hg13 hI hE; refine run tt_ok 1 hE rfl fun a hE => ?_; refine c_end ?_; refine xT ?_
  refine c_ret ?_; cases hF; refine r_ret (v := _) hE rfl ⟨_, _, _, rfl, hI.nil, rfl, rfl⟩

theorem cl_68 : Callable Try.prog 68 := ⟨_, Try.func68, by kernel_rfl, by kernel_rfl⟩

def plane_both.C (s : (Nat × Nat) → (Nat × Nat) → Option Bool) : Prop := ∀ (p0 : (Nat × Nat)) (p1 : (Nat × Nat)) (r : Bool), s p0 p1 = some r → ∀ (w0 : World) (G0 : GH) , Inv w0 G0 [] G0 [] w0 → Calls Try.prog 68 #[.complex .f64 p0.1 p0.2, .complex .f64 p1.1 p1.2] w0 (Ret w0 G0 [] fun G' L' v => L' = [] ∧ v = .bool r)

theorem plane_both.ok (k : Nat) : plane_both.C (plane_both k) := by
  intro p0 p1 r hF w0 G0  hI 
  unfold plane_both at hF
  refine calls_of_wp Try.func68 rfl ?_
  have hE : Env _ 11 [(0, .complex .f64 p0.1 p0.2), (1, .complex .f64 p1.1 p1.2)] := Env.start ⟨[.complex .f64 p0.1 p0.2, .complex .f64 p1.1 p1.2]⟩ 9
  refine c_seq ?_; refine c_reg ?_; refine run tt_ok 1 hE rfl fun a hE => ?_; refine c_end ?_; refine xT ?_; refine c_seq ?_; obtain ⟨m13, hF, hR15⟩ := bd hF
  refine c_cut (fun a' w' => ∃ (G11 : GH), G0.le G11 ∧ Env a' 11 [(4, .bool m13)] ∧ Inv w0 G0 [] G11 [] w') ?_ ?_; rotate_left
  · clear hE hI; rintro a w ⟨G11, hg14, hE, hI⟩; clear hF; have hF := hR15; clear hR15; refine xT ?_; refine c_ret ?_; cases hF; refine r_ret (v := _) hE rfl ⟨_, _, _, rfl, hI.nil, rfl, rfl⟩
  refine c_reg ?_; refine run tt_ok 1 hE rfl fun a hE => ?_; obtain ⟨y16, hy17, hF⟩ := bd hF; refine s_call0 cl_30 hI hE rfl rfl ((plane_Right.ok k) _ _ hy17 _ _  hI.pass0 ) rfl ?_; clear hE hI
  rintro a w _ G19 _ ⟨rfl, rfl⟩ hg18 hI hE; refine run tt_ok 1 hE rfl fun a hE => ?_; rcases bool_or y16 with hb20 | hb20; rotate_left
  · replace hF := cf hb20 hF; have hE := hE.tr (t := 7) rfl hb20; clear hb20; refine run tt_ok 4 hE rfl fun a hE => ?_; refine c_end ?_; refine xT ?_; cases hF; exact ⟨G19, hg18, hE.keep ⟨rfl, trivial⟩, hI⟩
  replace hF := ct hb20 hF; have hE := hE.tr (t := 7) rfl hb20; clear hb20; refine run tt_ok 1 hE rfl fun a hE => ?_; obtain ⟨y21, hy22, hF⟩ := bd hF
  refine s_call0 cl_30 hI hE rfl rfl ((plane_Right.ok k) _ _ hy22 _ _  hI.pass0 ) rfl ?_; clear hE hI; rintro a w _ G24 _ ⟨rfl, rfl⟩ hg23 hI hE; refine run tt_ok 2 hE rfl fun a hE => ?_; refine c_end ?_; refine xT ?_
  cases hF; exact ⟨G24, (hg18.trans hg23), hE.keep ⟨rfl, trivial⟩, hI⟩

theorem cl_82 : Callable Try.prog 82 := ⟨_, Try.func82, by kernel_rfl, by kernel_rfl⟩

def plane_cut.C (s : Nat → Option Nat) : Prop := ∀ (p0 : Nat) (r : Nat), s p0 = some r → ∀ (w0 : World) (G0 : GH) , Inv w0 G0 [] G0 [] w0 → Calls Try.prog 82 #[.float .f64 p0] w0 (Ret w0 G0 [] fun G' L' v => L' = [] ∧ v = .float .f64 r)

theorem plane_cut.ok (k : Nat) : plane_cut.C (plane_cut k) := by
  intro p0 r hF w0 G0  hI 
  unfold plane_cut at hF
  refine calls_of_wp Try.func82 rfl ?_
  have hE : Env _ 5 [(0, .float .f64 p0)] := Env.start ⟨[.float .f64 p0]⟩ 4
  refine c_seq ?_; refine c_reg ?_; refine run tt_ok 1 hE rfl fun a hE => ?_; refine c_end ?_; refine xT ?_; refine c_seq ?_; refine c_reg ?_; refine run tt_ok 1 hE rfl fun a hE => ?_; obtain ⟨z1, hz2, hF⟩ := bd hF
  refine s_rt hI hE rfl (f_fmin rfl rfl hz2) rfl fun a hE => ?_; refine run tt_ok 1 hE rfl fun a hE => ?_; refine c_end ?_; refine xT ?_; refine c_ret ?_; cases hF
  refine r_ret (v := _) hE rfl ⟨_, _, _, rfl, hI.nil, rfl, rfl⟩

theorem cl_57 : Callable Try.prog 57 := ⟨_, Try.func57, by kernel_rfl, by kernel_rfl⟩

def plane_Beside.C (s : (Nat × Nat) → (Nat × Nat) → Option (Nat × Nat)) : Prop := ∀ (p0 : (Nat × Nat)) (p1 : (Nat × Nat)) (r : (Nat × Nat)), s p0 p1 = some r → ∀ (w0 : World) (G0 : GH) , Inv w0 G0 [] G0 [] w0 → Calls Try.prog 57 #[.complex .f64 p0.1 p0.2, .complex .f64 p1.1 p1.2] w0 (Ret w0 G0 [] fun G' L' v => L' = [] ∧ v = .complex .f64 r.1 r.2)

theorem plane_Beside.ok (k : Nat) : plane_Beside.C (plane_Beside k) := by
  intro p0 p1 r hF w0 G0  hI 
  unfold plane_Beside at hF
  refine calls_of_wp Try.func57 rfl ?_
  have hE : Env _ 20 [(0, .complex .f64 p0.1 p0.2), (1, .complex .f64 p1.1 p1.2)] := Env.start ⟨[.complex .f64 p0.1 p0.2, .complex .f64 p1.1 p1.2]⟩ 18
  refine c_seq ?_; refine c_reg ?_; refine run tt_ok 1 hE rfl fun a hE => ?_; refine c_end ?_; refine xT ?_; refine c_seq ?_; refine c_seq ?_; refine c_reg ?_; refine run tt_ok 2 hE rfl fun a hE => ?_
  obtain ⟨y2, hy3, hF⟩ := bd hF; refine s_call0 cl_68 hI hE rfl rfl ((plane_both.ok k) _ _ _ hy3 _ _  hI.pass0 ) rfl ?_; clear hE hI; rintro a w _ G5 _ ⟨rfl, rfl⟩ hg4 hI hE; refine run tt_ok 1 hE rfl fun a hE => ?_
  refine c_end ?_; refine xT ?_; refine c_if (b := !y2) hE rfl (fun hb16 => ?_) (fun hb16 => ?_)
  · replace hF := ct hb16 hF; refine c_seq ?_; refine c_reg ?_; refine run tt_ok 1 hE rfl fun a hE => ?_; refine c_end ?_; refine xT ?_; refine c_ret ?_; refine xTr ?_; cases hF
    refine r_ret (v := _) hE rfl ⟨_, _, _, rfl, hI.nil, rfl, rfl⟩
  replace hF := cf hb16 hF; refine c_skip ?_; refine xT ?_; refine c_seq ?_; refine c_reg ?_; refine run tt_ok 2 hE rfl fun a hE => ?_; obtain ⟨z6, hz7, hF⟩ := bd hF
  refine s_rt hI hE rfl (f_cadd (A := p0) (B := p1) rfl rfl hz7) rfl fun a hE => ?_; refine run tt_ok 1 hE rfl fun a hE => ?_; refine c_end ?_; refine xT ?_; refine c_seq ?_; refine c_reg ?_
  refine run tt_ok 1 hE rfl fun a hE => ?_; refine s_rt hI hE rfl (f_real (A := z6) rfl) rfl fun a hE => ?_; obtain ⟨y8, hy9, hF⟩ := bd hF
  refine s_call0 cl_82 hI hE rfl rfl ((plane_cut.ok k) _ _ hy9 _ _  hI.pass0 ) rfl ?_; clear hE hI; rintro a w _ G11 _ ⟨rfl, rfl⟩ hg10 hI hE; refine run tt_ok 1 hE rfl fun a hE => ?_
  refine s_rt hI hE rfl (f_imag (A := z6) rfl) rfl fun a hE => ?_; obtain ⟨y12, hy13, hF⟩ := bd hF; refine s_call0 cl_82 hI hE rfl rfl ((plane_cut.ok k) _ _ hy13 _ _  hI.pass0 ) rfl ?_; clear hE hI
  rintro a w _ G15 _ ⟨rfl, rfl⟩ hg14 hI hE; refine s_rt hI hE rfl (f_cplx rfl rfl) rfl fun a hE => ?_; refine run tt_ok 1 hE rfl fun a hE => ?_; refine c_end ?_; refine xT ?_; refine c_ret ?_; cases hF
  refine r_ret (v := _) hE rfl ⟨_, _, _, rfl, hI.nil, rfl, rfl⟩
end Go.Proofs.Ytliaopbgkcdibaa
