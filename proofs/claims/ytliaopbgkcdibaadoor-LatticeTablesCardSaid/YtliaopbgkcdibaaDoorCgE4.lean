/- The contracts: what the machine does at a call is what the plain function says. Written by mk.py. -/
import Derived.Test.YtliaopbgkcdibaaDoorCgE3
set_option linter.unusedVariables false
set_option linter.unusedSimpArgs false
set_option maxRecDepth 100000
namespace Go.Proofs.YtliaopbgkcdibaaDoor
open Go.RowKit
theorem cl_8 : Callable Tryd.prog 8 := ⟨_, Tryd.func8, by kernel_rfl, by kernel_rfl⟩

def ref03_New.C (s : (List ByteArray) → (List TPair) → Option ((Option Tref03_Lattice) × Int)) : Prop := ∀ (p0 : List ByteArray) (p1 : List TPair) (r : (Option Tref03_Lattice) × Int), s p0 p1 = some r → ∀ (w0 : World) (G0 : GH) (A1 : Option Addr) (c2 : Nat) (A4 : Option Addr) (c5 : Nat), Inv w0 G0 [] G0 [] w0 → (Sl G0 A1 c2 1 (p0.map D.str)) → (Sl G0 A4 c5 2 (p1.map TPair.d)) → Calls Tryd.prog 8 #[.slice A1 p0.length c2, .slice A4 p1.length c5] w0 (Ret w0 G0 [] fun G' L' v => L' = [] ∧ ∃ A0, v = .tuple ⟨[.pointer A0, .int .i64 r.2]⟩ ∧ Pt G' A0 60 Tref03_Lattice.d r.1)

theorem ref03_New.ok (k : Nat) : ref03_New.C (ref03_New k) := by
  intro p0 p1 r hF w0 G0 A1 c2 A4 c5 hI h3 h6
  unfold ref03_New at hF
  refine calls_of_wp Tryd.func8 rfl ?_
  have hE : Env _ 192 [(0, .slice A1 p0.length c2), (1, .slice A4 p1.length c5)] := Env.start ⟨[.slice A1 p0.length c2, .slice A4 p1.length c5]⟩ 190
  refine c_seq ?_; refine c_reg ?_; refine run tt_ok 2 hE rfl fun a hE => ?_; refine c_end ?_; refine xT ?_; refine c_seq ?_; refine c_seq ?_; obtain ⟨m10, hF, hR12⟩ := bd hF
  refine c_cut (fun a' w' => ∃ (G8 : GH), G0.le G8 ∧ Env a' 192 [(0, .slice A1 p0.length c2), (1, .slice A4 p1.length c5), (24, .bool m10)] ∧ Inv w0 G0 [] G8 [] w') ?_ ?_
  · refine c_reg ?_; refine run tt_ok 4 hE rfl fun a hE => ?_; rcases bool_or (decide ((16 : Int) < (p0.length : Int))) with hb5460 | hb5460
    · replace hF := ct hb5460 hF; have hE := hE.tr (t := 20) rfl hb5460; clear hb5460; refine run tt_ok 4 hE rfl fun a hE => ?_; refine c_end ?_; refine xT ?_; cases hF
      exact ⟨G0, (GH.le.refl _), hE.keep ⟨rfl, rfl, rfl, trivial⟩, hI⟩
    replace hF := cf hb5460 hF; have hE := hE.tr (t := 20) rfl hb5460; clear hb5460; refine run tt_ok 4 hE rfl fun a hE => ?_; refine c_end ?_; refine xT ?_; cases hF
    exact ⟨G0, (GH.le.refl _), hE.keep ⟨rfl, rfl, rfl, trivial⟩, hI⟩
  clear hE hI; rintro a w ⟨G8, hg11, hE, hI⟩; clear hF; have hF := hR12; clear hR12; refine xT ?_; refine c_if (b := m10) hE rfl (fun hb5459 => ?_) (fun hb5459 => ?_)
  · replace hF := ct hb5459 hF; refine c_seq ?_; refine c_reg ?_; refine run tt_ok 2 hE rfl fun a hE => ?_; refine c_end ?_; refine xT ?_; refine c_ret ?_; refine xTr ?_; cases hF
    refine r_ret (v := _) hE rfl ⟨_, _, _, rfl, hI.nil, rfl, none, rfl, Pt.nil⟩
  replace hF := cf hb5459 hF; refine c_skip ?_; refine xT ?_; refine c_seq ?_; refine c_seq ?_; refine c_reg ?_; refine run tt_ok 1 hE rfl fun a hE => ?_; refine c_end ?_; refine xT ?_
  obtain ⟨o78, hO79, hK80⟩ := bd hF; clear hF
  refine c_cut (fun a' w' => ∃ (s82 : Unit) (G83 : GH), o78 = .go s82 ∧ G8.le G83 ∧ Env a' 192 [(0, .slice A1 p0.length c2), (1, .slice A4 p1.length c5)] ∧ Inv w0 G0 [] G83 [] w') ?_ ?_
  · refine c_block ?_
    refine wp_loop_ghost (fun n' a' w' => ∃ (i5393 : Nat) (rest5395 : List ByteArray) (s77 : Unit) (G76 : GH), n' = rest5395.length ∧ i5393 ≤ p0.length ∧ p0.drop i5393 = rest5395 ∧ forL (ref03_New.b6 k p0) i5393 rest5395 s77 = some o78 ∧ G8.le G76 ∧ Env a' 192 [(6, .int .i64 (i5393 : Int)), (0, .slice A1 p0.length c2), (1, .slice A4 p1.length c5)] ∧ Inv w0 G0 [] G76 [] w') _ ⟨0, _, _, G8, rfl, Nat.zero_le _, rfl, hO79, (GH.le.refl _), hE.keep ⟨rfl, rfl, rfl, trivial⟩, hI⟩ ?_
    clear hE hI hO79; rintro m5392 a w ⟨i5393, rest5395, s77, G76, rfl, hi5399, hd5396, hO79, hg81, hE, hI⟩; rcases rest5395 with _ | ⟨x5394, rest5395⟩
    · obtain rfl := forL_nil hO79; have hlt5398 := drop_nil hd5396 hi5399; clear hd5396; refine c_seq ?_; refine c_seq ?_; refine c_reg ?_; refine run tt_ok 4 hE rfl fun a hE => ?_; refine c_end ?_; refine xT ?_
      have hE := hE.tr (t := 28) rfl (decide_eq_false (by omega)); refine c_false hE rfl ?_; refine c_exit ?_; refine xTe ?_; refine xTe ?_; refine xBh ?_; refine xT ?_
      exact ⟨_, G76, rfl, hg81, hE.keep ⟨rfl, rfl, trivial⟩, hI⟩
    obtain ⟨stp5391, hF, hO79⟩ := forL_step hO79; obtain ⟨hx5397, hd5396, hlt5398⟩ := drop_cons hd5396; unfold ref03_New.b6 at hF; refine c_seq ?_; refine c_seq ?_; refine c_reg ?_; refine run tt_ok 4 hE rfl fun a hE => ?_
    refine c_end ?_; refine xT ?_; have hE := hE.tr (t := 28) rfl (decide_eq_true (by omega)); refine c_true hE rfl ?_; refine c_skip ?_; refine xT ?_; refine c_seq ?_; refine c_block ?_; refine c_seq ?_
    obtain ⟨m5429, hF, hR5431⟩ := bd hF
    refine c_cut (fun a' w' => ∃ (G5427 : GH), G76.le G5427 ∧ Env a' 192 [(0, .slice A1 p0.length c2), (1, .slice A4 p1.length c5), (6, .int .i64 (i5393 : Int)), (54, .bool m5429)] ∧ Inv w0 G0 [] G5427 [] w') ?_ ?_
    rotate_left
    · clear hE hI; rintro a w ⟨G5427, hg5430, hE, hI⟩; clear hF; have hF := hR5431; clear hR5431; refine xT ?_; refine c_if (b := m5429) hE rfl (fun hb5432 => ?_) (fun hb5432 => ?_)
      · replace hF := ct hb5432 hF; refine c_seq ?_; refine c_reg ?_; refine run tt_ok 2 hE rfl fun a hE => ?_; refine c_end ?_; refine xT ?_; refine c_ret ?_; refine xBr ?_; refine xTr ?_; refine xTr ?_; refine xBr ?_
        refine xTr ?_; refine xTr ?_; cases hF; obtain rfl := nxt_ret hO79; have hF := lrk_ret hK80; cases hF; refine r_ret (v := _) hE rfl ⟨_, _, _, rfl, hI.nil, rfl, none, rfl, Pt.nil⟩
      replace hF := cf hb5432 hF; refine c_skip ?_; refine xB ?_; refine xT ?_; refine c_reg ?_; refine run tt_ok 3 hE rfl fun a hE => ?_; refine c_end ?_; refine xT ?_; cases hF
      have hE := hE.setI (t := 6) rfl (w64_succ hlt5398 (len_le h3))
      exact ⟨rest5395.length, Nat.lt_succ_self _, i5393 + 1, rest5395, _, G5427, rfl, hlt5398, hd5396, hO79, (hg81.trans hg5430), hE.keep ⟨rfl, rfl, rfl, trivial⟩, hI⟩
    refine c_draw mixed (by kernel_rfl) hI ?_; clear hI; refine runq tt_ok 2 hE rfl fun a hE => ?_; obtain ⟨b5433, o5434, cs, hb5437, hR5436, hA5435⟩ := sl_at (h3.mono (hg11.trans hg81)) (Int.natCast_nonneg _) (natIdx hx5397)
    obtain rfl := rep_str.1 hR5436; refine q_rt hE rfl (f_idx tt_ok hb5437 rfl rfl rfl) rfl fun a hE => ?_; refine q_rt hE rfl (f_loadG tt_ok hA5435 0 rfl rfl rfl rfl) rfl fun a hE => ?_
    refine runq tt_ok 2 hE rfl fun a hE => ?_; rcases bool_or (decide (x5394 = (⟨#[]⟩ : ByteArray))) with hb5438 | hb5438
    · replace hF := ct hb5438 hF; have hE := hE.tr (t := 36) rfl hb5438; clear hb5438; refine runq tt_ok 18 hE rfl fun a hE => ?_; refine q_end ?_; intro w hI; refine xT ?_; cases hF
      exact ⟨G76, (GH.le.refl _), hE.keep ⟨rfl, rfl, rfl, rfl, trivial⟩, hI⟩
    replace hF := cf hb5438 hF; have hE := hE.tr (t := 36) rfl hb5438; clear hb5438; refine runq tt_ok 2 hE rfl fun a hE => ?_
    obtain ⟨b5439, o5440, cs, hb5443, hR5442, hA5441⟩ := sl_at (h3.mono (hg11.trans hg81)) (Int.natCast_nonneg _) (natIdx hx5397); obtain rfl := rep_str.1 hR5442
    refine q_rt hE rfl (f_idx tt_ok hb5443 rfl rfl rfl) rfl fun a hE => ?_; refine q_rt hE rfl (f_loadG tt_ok hA5441 0 rfl rfl rfl rfl) rfl fun a hE => ?_; refine runq tt_ok 4 hE rfl fun a hE => ?_
    rcases bool_or (decide ((30 : Int) < (x5394.size : Int))) with hb5444 | hb5444
    · replace hF := ct hb5444 hF; have hE := hE.tr (t := 44) rfl hb5444; clear hb5444; refine runq tt_ok 10 hE rfl fun a hE => ?_; refine q_end ?_; intro w hI; refine xT ?_; cases hF
      exact ⟨G76, (GH.le.refl _), hE.keep ⟨rfl, rfl, rfl, rfl, trivial⟩, hI⟩
    replace hF := cf hb5444 hF; have hE := hE.tr (t := 44) rfl hb5444; clear hb5444; refine runq tt_ok 2 hE rfl fun a hE => ?_; obtain ⟨z5445, hz5446, hF⟩ := bd hF
    obtain ⟨A5447, c5448, h5449, hrt5450⟩ := f_cut (t := 22) (x := .tmp 45) (lo := none) (hi := some (.tmp 46)) tt_ok hE rfl (h3.mono (hg11.trans hg81)) rfl rfl rfl hz5446; refine q_rt hE rfl (hrt5450 _) rfl fun a hE => ?_
    refine runq tt_ok 2 hE rfl fun a hE => ?_; obtain ⟨b5451, o5452, cs, hb5455, hR5454, hA5453⟩ := sl_at (h3.mono (hg11.trans hg81)) (Int.natCast_nonneg _) (natIdx hx5397); obtain rfl := rep_str.1 hR5454
    refine q_rt hE rfl (f_idx tt_ok hb5455 rfl rfl rfl) rfl fun a hE => ?_; refine q_rt hE rfl (f_loadG tt_ok hA5453 0 rfl rfl rfl rfl) rfl fun a hE => ?_; obtain ⟨y5456, hy5457, hF⟩ := bd hF
    refine q_call cl_27 hE rfl rfl (fun w hI => (ref03_Find.ok k) _ _ _ hy5457 _ _ _ _ hI.pass0 h5449) (fun _ _ _ h => h.2) rfl fun a hE => ?_; refine runq tt_ok 2 hE rfl fun a hE => ?_; refine q_end ?_; intro w hI
    refine xT ?_; cases hF; exact ⟨G76, (GH.le.refl _), hE.keep ⟨rfl, rfl, rfl, rfl, trivial⟩, hI⟩
  clear hE hI hO79; rintro a w ⟨s82, G83, rfl, hg84, hE, hI⟩; have hF := lrk_go hK80; clear hK80; refine xT ?_; refine c_seq ?_; refine c_seq ?_; refine c_reg ?_; refine run tt_ok 1 hE rfl fun a hE => ?_; refine c_end ?_
  refine xT ?_; obtain ⟨o137, hO138, hK139⟩ := bd hF; clear hF
  refine c_cut (fun a' w' => ∃ (s141 : Unit) (G142 : GH), o137 = .go s141 ∧ G83.le G142 ∧ Env a' 192 [(0, .slice A1 p0.length c2), (1, .slice A4 p1.length c5)] ∧ Inv w0 G0 [] G142 [] w') ?_ ?_
  · refine c_block ?_
    refine wp_loop_ghost (fun n' a' w' => ∃ (i5338 : Nat) (rest5340 : List TPair) (s136 : Unit) (G135 : GH), n' = rest5340.length ∧ i5338 ≤ p1.length ∧ p1.drop i5338 = rest5340 ∧ forL (ref03_New.b5 k p0) i5338 rest5340 s136 = some o137 ∧ G83.le G135 ∧ Env a' 192 [(7, .int .i64 (i5338 : Int)), (0, .slice A1 p0.length c2), (1, .slice A4 p1.length c5)] ∧ Inv w0 G0 [] G135 [] w') _ ⟨0, _, _, G83, rfl, Nat.zero_le _, rfl, hO138, (GH.le.refl _), hE.keep ⟨rfl, rfl, rfl, trivial⟩, hI⟩ ?_
    clear hE hI hO138; rintro m5337 a w ⟨i5338, rest5340, s136, G135, rfl, hi5344, hd5341, hO138, hg140, hE, hI⟩; rcases rest5340 with _ | ⟨x5339, rest5340⟩
    · obtain rfl := forL_nil hO138; have hlt5343 := drop_nil hd5341 hi5344; clear hd5341; refine c_seq ?_; refine c_seq ?_; refine c_reg ?_; refine run tt_ok 4 hE rfl fun a hE => ?_; refine c_end ?_; refine xT ?_
      have hE := hE.tr (t := 58) rfl (decide_eq_false (by omega)); refine c_false hE rfl ?_; refine c_exit ?_; refine xTe ?_; refine xTe ?_; refine xBh ?_; refine xT ?_
      exact ⟨_, G135, rfl, hg140, hE.keep ⟨rfl, rfl, trivial⟩, hI⟩
    obtain ⟨stp5336, hF, hO138⟩ := forL_step hO138; obtain ⟨hx5342, hd5341, hlt5343⟩ := drop_cons hd5341; unfold ref03_New.b5 at hF; refine c_seq ?_; refine c_seq ?_; refine c_reg ?_; refine run tt_ok 4 hE rfl fun a hE => ?_
    refine c_end ?_; refine xT ?_; have hE := hE.tr (t := 58) rfl (decide_eq_true (by omega)); refine c_true hE rfl ?_; refine c_skip ?_; refine xT ?_; refine c_seq ?_; refine c_block ?_; refine c_seq ?_
    obtain ⟨m5368, hF, hR5370⟩ := bd hF
    refine c_cut (fun a' w' => ∃ (G5366 : GH), G135.le G5366 ∧ Env a' 192 [(0, .slice A1 p0.length c2), (1, .slice A4 p1.length c5), (7, .int .i64 (i5338 : Int)), (78, .bool m5368)] ∧ Inv w0 G0 [] G5366 [] w') ?_ ?_
    rotate_left
    · clear hE hI; rintro a w ⟨G5366, hg5369, hE, hI⟩; clear hF; have hF := hR5370; clear hR5370; refine xT ?_; refine c_if (b := m5368) hE rfl (fun hb5371 => ?_) (fun hb5371 => ?_)
      · replace hF := ct hb5371 hF; refine c_seq ?_; refine c_reg ?_; refine run tt_ok 2 hE rfl fun a hE => ?_; refine c_end ?_; refine xT ?_; refine c_ret ?_; refine xBr ?_; refine xTr ?_; refine xTr ?_; refine xBr ?_
        refine xTr ?_; refine xTr ?_; cases hF; obtain rfl := nxt_ret hO138; have hF := lrk_ret hK139; cases hF; refine r_ret (v := _) hE rfl ⟨_, _, _, rfl, hI.nil, rfl, none, rfl, Pt.nil⟩
      replace hF := cf hb5371 hF; refine c_skip ?_; refine xB ?_; refine xT ?_; refine c_reg ?_; refine run tt_ok 3 hE rfl fun a hE => ?_; refine c_end ?_; refine xT ?_; cases hF
      have hE := hE.setI (t := 7) rfl (w64_succ hlt5343 (len_le h6))
      exact ⟨rest5340.length, Nat.lt_succ_self _, i5338 + 1, rest5340, _, G5366, rfl, hlt5343, hd5341, hO138, (hg140.trans hg5369), hE.keep ⟨rfl, rfl, rfl, trivial⟩, hI⟩
    refine c_reg ?_; refine run tt_ok 3 hE rfl fun a hE => ?_; obtain ⟨b5372, o5373, cs, hb5376, hR5375, hA5374⟩ := sl_at (h6.mono ((hg11.trans hg84).trans hg140)) (Int.natCast_nonneg _) (natIdx hx5342)
    obtain rfl := TPair.inv.1 hR5375; refine s_rt hI hE rfl (f_idx tt_ok hb5376 rfl rfl rfl) rfl fun a hE => ?_; refine run tt_ok 1 hE rfl fun a hE => ?_
    refine s_rt hI hE rfl (f_loadG tt_ok hA5374 0 rfl rfl rfl rfl) rfl fun a hE => ?_; obtain ⟨y5377, hy5378, hF⟩ := bd hF
    refine s_call0 cl_27 hI hE rfl rfl ((ref03_Find.ok k) _ _ _ hy5378 _ _ _ _ hI.pass0 (h3.mono ((hg11.trans hg84).trans hg140))) rfl ?_; clear hE hI; rintro a w _ G5380 _ ⟨rfl, rfl⟩ hg5379 hI hE
    refine run tt_ok 2 hE rfl fun a hE => ?_; rcases bool_or (decide (y5377 < (0 : Int))) with hb5381 | hb5381
    · replace hF := ct hb5381 hF; have hE := hE.tr (t := 69) rfl hb5381; clear hb5381; refine run tt_ok 9 hE rfl fun a hE => ?_; refine c_end ?_; refine xT ?_; cases hF
      exact ⟨G5380, hg5379, hE.keep ⟨rfl, rfl, rfl, rfl, trivial⟩, hI⟩
    replace hF := cf hb5381 hF; have hE := hE.tr (t := 69) rfl hb5381; clear hb5381; refine run tt_ok 3 hE rfl fun a hE => ?_
    obtain ⟨b5382, o5383, cs, hb5386, hR5385, hA5384⟩ := sl_at (h6.mono (((hg11.trans hg84).trans hg140).trans hg5379)) (Int.natCast_nonneg _) (natIdx hx5342); obtain rfl := TPair.inv.1 hR5385
    refine s_rt hI hE rfl (f_idx tt_ok hb5386 rfl rfl rfl) rfl fun a hE => ?_; refine run tt_ok 1 hE rfl fun a hE => ?_; refine s_rt hI hE rfl (f_loadG tt_ok hA5384 1 rfl rfl rfl rfl) rfl fun a hE => ?_
    obtain ⟨y5387, hy5388, hF⟩ := bd hF; refine s_call0 cl_27 hI hE rfl rfl ((ref03_Find.ok k) _ _ _ hy5388 _ _ _ _ hI.pass0 (h3.mono (((hg11.trans hg84).trans hg140).trans hg5379))) rfl ?_; clear hE hI
    rintro a w _ G5390 _ ⟨rfl, rfl⟩ hg5389 hI hE; refine run tt_ok 2 hE rfl fun a hE => ?_; refine c_end ?_; refine xT ?_; cases hF; exact ⟨G5390, (hg5379.trans hg5389), hE.keep ⟨rfl, rfl, rfl, rfl, trivial⟩, hI⟩
  clear hE hI hO138; rintro a w ⟨s141, G142, rfl, hg143, hE, hI⟩; have hF := lrk_go hK139; clear hK139; refine xT ?_; refine c_seq ?_; refine c_reg ?_; refine run tt_ok 3 hE rfl fun a hE => ?_; refine c_end ?_; refine xT ?_
  refine c_seq ?_; refine c_reg ?_; refine s_bsl ai_22 hI hE rfl rfl rfl rfl rfl fun a w b148 hE hI => ?_; have hR150 : RL G142 1 (([] : List ByteArray).map D.str) [] := RL.nil; refine run tt_ok 1 hE rfl fun a hE => ?_
  obtain ⟨_, hb151, hF⟩ := bd hF
  refine s_appG (f := D.str) (xs := ([] : List ByteArray)) (ys := p0) ai_22 0 hI hE rfl rfl (h3.mono ((hg11.trans hg84).trans hg143)) rfl rfl (lim_le hb151) rfl fun a w A152 c153 cs154 hE hR156 hI => ?_
  have hR155 := RL.appm hR150 hR156; refine s_rt hI hE rfl (f_build tt_ok rfl z_60 rfl rfl) rfl fun a hE => ?_; refine s_box hI hE rfl rfl rfl rfl fun a w b157 hE hI => ?_; refine run tt_ok 1 hE rfl fun a hE => ?_
  refine c_end ?_; refine xT ?_; refine c_seq ?_; refine c_seq ?_; refine c_reg ?_; refine run tt_ok 1 hE rfl fun a hE => ?_; refine c_end ?_; refine xT ?_; have hI := hI.nilrow 61 1
  have hR1312 : RL G142 1 (([] : List (List Bool)).map (fun l => D.sl 1 (l.map D.bool))) [] := RL.nil; obtain ⟨o3637, hO3638, hK3639⟩ := bd hF; clear hF
  refine c_cut (fun a' w' => ∃ (s3641 : (List (List Bool))) (G3642 : GH) (A3644 : Option Addr) (c3645 : Nat) (cs3646 : List Value), o3637 = .go s3641 ∧ G142.le G3642 ∧ Env a' 192 [(8, .int .i64 (p0.length : Int)), (9, .pointer (some ⟨b157, 0, none⟩))] ∧ Inv w0 G0 [] G3642 [.row (.slice A3644 s3641.length c3645) 61 1 s3641.length cs3646, .blk b157 [.slice A152 (([] : List ByteArray) ++ p0).length c153, .slice A3644 s3641.length c3645] 60, .row (.slice A152 (([] : List ByteArray) ++ p0).length c153) 9 1 (([] : List ByteArray) ++ p0).length ([] ++ cs154)] w' ∧ RL G3642 1 (s3641.map (fun l => D.sl 1 (l.map D.bool))) cs3646) ?_ ?_
  rotate_left
  · clear hE hI hO3638; rintro a w ⟨s3641, G3642, A3644, c3645, cs3646, rfl, hg3648, hE, hI, hR3647⟩; have hF := lrk_go hK3639; clear hK3639; refine xT ?_; refine c_seq ?_; refine c_seq ?_; refine c_reg ?_
    refine run tt_ok 2 hE rfl fun a hE => ?_; refine c_end ?_; refine xT ?_; refine c_if (b := decide ((p0.length : Int) = (0 : Int))) hE rfl (fun hb4179 => ?_) (fun hb4179 => ?_)
    · replace hF := ct hb4179 hF; refine c_seq ?_; refine c_reg ?_; refine run tt_ok 2 hE rfl fun a hE => ?_; refine c_end ?_; refine xT ?_; refine c_ret ?_; refine xTr ?_; cases hF
      refine r_ret (v := _) hE rfl ⟨_, _, _, rfl, hI.nil, rfl, none, rfl, Pt.nil⟩
    replace hF := cf hb4179 hF; refine c_skip ?_; refine xT ?_; refine c_seq ?_; refine c_seq ?_; refine c_reg ?_; refine run tt_ok 1 hE rfl fun a hE => ?_; refine c_end ?_; refine xT ?_
    obtain ⟨G3699, hg3700, hI, h3701⟩ := (hI.front 2).giveR (xs := (([] : List ByteArray) ++ p0).map D.str) (by simp) (hR155.mono hg3648)
    obtain ⟨G3702, hg3703, hI, h3704⟩ := (hI.front 0).giveR (xs := s3641.map (fun l => D.sl 1 (l.map D.bool))) (by simp) (hR3647.mono hg3700); obtain ⟨G3705, hg3706, hI, hA3707⟩ := (hI.front 0).giveB
    have h3708 : Pt G3705 (some ⟨b157, 0, none⟩) 60 Tref03_Lattice.d (some (Tref03_Lattice.mk (([] : List ByteArray) ++ p0) s3641)) := Pt.mk (Tref03_Lattice.inv.2 ⟨A152, c153, A3644, c3645, rfl, (h3701.mono (hg3703.trans hg3706)), (h3704.mono hg3706)⟩) hA3707
    obtain ⟨o3935, hO3936, hK3937⟩ := bd hF; clear hF
    refine c_cut (fun a' w' => ∃ (s3939 : Unit) (G3940 : GH), o3935 = .go s3939 ∧ G3705.le G3940 ∧ Env a' 192 [(9, .pointer (some ⟨b157, 0, none⟩))] ∧ Inv w0 G0 [] G3940 [] w') ?_ ?_; rotate_left
    · clear hE hI hO3936; rintro a w ⟨s3939, G3940, rfl, hg3941, hE, hI⟩; have hF := lrk_go hK3937; clear hK3937; refine xT ?_; refine c_seq ?_; refine c_reg ?_; refine run tt_ok 3 hE rfl fun a hE => ?_; refine c_end ?_
      refine xT ?_; refine c_ret ?_; cases hF; refine r_ret (v := _) hE rfl ⟨_, _, _, rfl, hI.nil, rfl, (some ⟨b157, 0, none⟩), rfl, (h3708.mono hg3941)⟩
    refine c_block ?_
    refine wp_loop_ghost (fun n' a' w' => ∃ (i3944 : Nat) (rest3946 : List ByteArray) (s3934 : Unit) (G3933 : GH), n' = rest3946.length ∧ i3944 ≤ p0.length ∧ p0.drop i3944 = rest3946 ∧ forL (ref03_New.b0 k s3641 p0) i3944 rest3946 s3934 = some o3935 ∧ G3705.le G3933 ∧ Env a' 192 [(15, .int .i64 (i3944 : Int)), (8, .int .i64 (p0.length : Int)), (9, .pointer (some ⟨b157, 0, none⟩))] ∧ Inv w0 G0 [] G3933 [] w') _ ⟨0, _, _, G3705, rfl, Nat.zero_le _, rfl, hO3936, (GH.le.refl _), hE.keep ⟨rfl, rfl, rfl, trivial⟩, hI⟩ ?_
    clear hE hI hO3936; rintro m3943 a w ⟨i3944, rest3946, s3934, G3933, rfl, hi3950, hd3947, hO3936, hg3938, hE, hI⟩; rcases rest3946 with _ | ⟨x3945, rest3946⟩
    · obtain rfl := forL_nil hO3936; have hlt3949 := drop_nil hd3947 hi3950; clear hd3947; refine c_seq ?_; refine c_seq ?_; refine c_reg ?_; refine run tt_ok 3 hE rfl fun a hE => ?_; refine c_end ?_; refine xT ?_
      have hE := hE.tr (t := 144) rfl (decide_eq_false (by omega)); refine c_false hE rfl ?_; refine c_exit ?_; refine xTe ?_; refine xTe ?_; refine xBh ?_; refine xT ?_
      exact ⟨_, G3933, rfl, hg3938, hE.keep ⟨rfl, trivial⟩, hI⟩
    obtain ⟨stp3942, hF, hO3936⟩ := forL_step hO3936; obtain ⟨hx3948, hd3947, hlt3949⟩ := drop_cons hd3947; unfold ref03_New.b0 at hF; refine c_seq ?_; refine c_seq ?_; refine c_reg ?_
    refine run tt_ok 3 hE rfl fun a hE => ?_; refine c_end ?_; refine xT ?_; have hE := hE.tr (t := 144) rfl (decide_eq_true (by omega)); refine c_true hE rfl ?_; refine c_skip ?_; refine xT ?_; refine c_seq ?_
    refine c_block ?_; refine c_seq ?_; refine c_reg ?_; refine run tt_ok 1 hE rfl fun a hE => ?_; refine c_end ?_; refine xT ?_; obtain ⟨o4060, hO4061, hK4062⟩ := bd hF; clear hF
    refine c_cut (fun a' w' => ∃ (s4064 : Unit) (G4065 : GH), o4060 = .go s4064 ∧ G3933.le G4065 ∧ Env a' 192 [(8, .int .i64 (p0.length : Int)), (9, .pointer (some ⟨b157, 0, none⟩)), (15, .int .i64 (i3944 : Int))] ∧ Inv w0 G0 [] G4065 [] w') ?_ ?_
    rotate_left
    · clear hE hI hO4061; rintro a w ⟨s4064, G4065, rfl, hg4066, hE, hI⟩; have hF := lrk_go hK4062; clear hK4062; refine xB ?_; refine xT ?_; refine c_reg ?_; refine run tt_ok 3 hE rfl fun a hE => ?_; refine c_end ?_
      refine xT ?_; cases hF; have hE := hE.setI (t := 15) rfl (w64_succ hlt3949 (len_le h3))
      exact ⟨rest3946.length, Nat.lt_succ_self _, i3944 + 1, rest3946, _, G4065, rfl, hlt3949, hd3947, hO3936, (hg3938.trans hg4066), hE.keep ⟨rfl, rfl, rfl, trivial⟩, hI⟩
    refine c_block ?_
    refine wp_loop_ghost (fun n' a' w' => ∃ (i4069 : Nat) (rest4071 : List ByteArray) (s4059 : Unit) (G4058 : GH), n' = rest4071.length ∧ i4069 ≤ p0.length ∧ p0.drop i4069 = rest4071 ∧ forL (ref03_New.b1 k i3944 s3641 p0) i4069 rest4071 s4059 = some o4060 ∧ G3933.le G4058 ∧ Env a' 192 [(16, .int .i64 (i4069 : Int)), (8, .int .i64 (p0.length : Int)), (9, .pointer (some ⟨b157, 0, none⟩)), (15, .int .i64 (i3944 : Int))] ∧ Inv w0 G0 [] G4058 [] w') _ ⟨0, _, _, G3933, rfl, Nat.zero_le _, rfl, hO4061, (GH.le.refl _), hE.keep ⟨rfl, rfl, rfl, rfl, trivial⟩, hI⟩ ?_
    clear hE hI hO4061; rintro m4068 a w ⟨i4069, rest4071, s4059, G4058, rfl, hi4075, hd4072, hO4061, hg4063, hE, hI⟩; rcases rest4071 with _ | ⟨x4070, rest4071⟩
    · obtain rfl := forL_nil hO4061; have hlt4074 := drop_nil hd4072 hi4075; clear hd4072; refine c_seq ?_; refine c_seq ?_; refine c_reg ?_; refine run tt_ok 3 hE rfl fun a hE => ?_; refine c_end ?_; refine xT ?_
      have hE := hE.tr (t := 149) rfl (decide_eq_false (by omega)); refine c_false hE rfl ?_; refine c_exit ?_; refine xTe ?_; refine xTe ?_; refine xBh ?_; refine xT ?_
      exact ⟨_, G4058, rfl, hg4063, hE.keep ⟨rfl, rfl, rfl, trivial⟩, hI⟩
    obtain ⟨stp4067, hF, hO4061⟩ := forL_step hO4061; obtain ⟨hx4073, hd4072, hlt4074⟩ := drop_cons hd4072; unfold ref03_New.b1 at hF; refine c_seq ?_; refine c_seq ?_; refine c_reg ?_
    refine run tt_ok 3 hE rfl fun a hE => ?_; refine c_end ?_; refine xT ?_; have hE := hE.tr (t := 149) rfl (decide_eq_true (by omega)); refine c_true hE rfl ?_; refine c_skip ?_; refine xT ?_; refine c_seq ?_
    refine c_block ?_; refine c_seq ?_; refine c_seq ?_; obtain ⟨m4114, hF, hR4116⟩ := bd hF
    refine c_cut (fun a' w' => ∃ (G4112 : GH), G4058.le G4112 ∧ Env a' 192 [(8, .int .i64 (p0.length : Int)), (9, .pointer (some ⟨b157, 0, none⟩)), (15, .int .i64 (i3944 : Int)), (16, .int .i64 (i4069 : Int)), (178, .bool m4114)] ∧ Inv w0 G0 [] G4112 [] w') ?_ ?_
    · refine c_reg ?_; refine run tt_ok 4 hE rfl fun a hE => ?_; rcases bool_or (!decide ((i3944 : Int) = (i4069 : Int))) with hb4143 | hb4143; rotate_left
      · replace hF := cf hb4143 hF; have hE := hE.tr (t := 155) rfl hb4143; clear hb4143; refine run tt_ok 23 hE rfl fun a hE => ?_; refine c_end ?_; refine xT ?_; cases hF
        exact ⟨G4058, (GH.le.refl _), hE.keep ⟨rfl, rfl, rfl, rfl, rfl, trivial⟩, hI⟩
      replace hF := ct hb4143 hF; have hE := hE.tr (t := 155) rfl hb4143; clear hb4143; refine run tt_ok 3 hE rfl fun a hE => ?_
      refine s_rt hI hE rfl (f_loadG tt_ok (hA3707.mono (hg3938.trans hg4063)) 1 rfl rfl rfl rfl) rfl fun a hE => ?_; refine run tt_ok 1 hE rfl fun a hE => ?_; obtain ⟨y4148, hy4149, hF⟩ := bd hF
      obtain ⟨b4144, o4145, cs, hb4153, hR4147, hA4146⟩ := sl_at (h3704.mono ((hg3706.trans hg3938).trans hg4063)) (getO_some hy4149).1 (getO_some hy4149).2; obtain ⟨A4150, c4151, rfl, h4152⟩ := rep_slm.1 hR4147
      refine s_rt hI hE rfl (f_idx tt_ok hb4153 rfl rfl rfl) rfl fun a hE => ?_; refine s_rt hI hE rfl (f_loadG tt_ok hA4146 0 rfl rfl rfl rfl) rfl fun a hE => ?_; refine run tt_ok 1 hE rfl fun a hE => ?_
      obtain ⟨y4158, hy4159, hF⟩ := bd hF; obtain ⟨b4154, o4155, cs, hb4160, hR4157, hA4156⟩ := sl_at h4152 (getO_some hy4159).1 (getO_some hy4159).2; obtain rfl := rep_bool.1 hR4157
      refine s_rt hI hE rfl (f_idx tt_ok hb4160 rfl rfl rfl) rfl fun a hE => ?_; refine s_rt hI hE rfl (f_loadG tt_ok hA4156 0 rfl rfl rfl rfl) rfl fun a hE => ?_; refine run tt_ok 2 hE rfl fun a hE => ?_
      rcases bool_or y4158 with hb4161 | hb4161; rotate_left
      · replace hF := cf hb4161 hF; have hE := hE.tr (t := 167) rfl hb4161; clear hb4161; refine run tt_ok 11 hE rfl fun a hE => ?_; refine c_end ?_; refine xT ?_; cases hF
        exact ⟨G4058, (GH.le.refl _), hE.keep ⟨rfl, rfl, rfl, rfl, rfl, trivial⟩, hI⟩
      replace hF := ct hb4161 hF; have hE := hE.tr (t := 167) rfl hb4161; clear hb4161; refine run tt_ok 3 hE rfl fun a hE => ?_
      refine s_rt hI hE rfl (f_loadG tt_ok (hA3707.mono (hg3938.trans hg4063)) 1 rfl rfl rfl rfl) rfl fun a hE => ?_; refine run tt_ok 1 hE rfl fun a hE => ?_; obtain ⟨y4166, hy4167, hF⟩ := bd hF
      obtain ⟨b4162, o4163, cs, hb4171, hR4165, hA4164⟩ := sl_at (h3704.mono ((hg3706.trans hg3938).trans hg4063)) (getO_some hy4167).1 (getO_some hy4167).2; obtain ⟨A4168, c4169, rfl, h4170⟩ := rep_slm.1 hR4165
      refine s_rt hI hE rfl (f_idx tt_ok hb4171 rfl rfl rfl) rfl fun a hE => ?_; refine s_rt hI hE rfl (f_loadG tt_ok hA4164 0 rfl rfl rfl rfl) rfl fun a hE => ?_; refine run tt_ok 1 hE rfl fun a hE => ?_
      obtain ⟨y4176, hy4177, hF⟩ := bd hF; obtain ⟨b4172, o4173, cs, hb4178, hR4175, hA4174⟩ := sl_at h4170 (getO_some hy4177).1 (getO_some hy4177).2; obtain rfl := rep_bool.1 hR4175
      refine s_rt hI hE rfl (f_idx tt_ok hb4178 rfl rfl rfl) rfl fun a hE => ?_; refine s_rt hI hE rfl (f_loadG tt_ok hA4174 0 rfl rfl rfl rfl) rfl fun a hE => ?_; refine run tt_ok 1 hE rfl fun a hE => ?_; refine c_end ?_
      refine xT ?_; cases hF; exact ⟨G4058, (GH.le.refl _), hE.keep ⟨rfl, rfl, rfl, rfl, rfl, trivial⟩, hI⟩
    clear hE hI; rintro a w ⟨G4112, hg4115, hE, hI⟩; clear hF; have hF := hR4116; clear hR4116; refine xT ?_; refine c_if (b := m4114) hE rfl (fun hb4142 => ?_) (fun hb4142 => ?_)
    · replace hF := ct hb4142 hF; refine c_seq ?_; refine c_reg ?_; refine run tt_ok 2 hE rfl fun a hE => ?_; refine c_end ?_; refine xT ?_; refine c_ret ?_; refine xTr ?_; refine xBr ?_; refine xTr ?_; refine xTr ?_
      refine xBr ?_; refine xTr ?_; refine xBr ?_; refine xTr ?_; refine xTr ?_; refine xBr ?_; refine xTr ?_; refine xTr ?_; cases hF; obtain rfl := nxt_ret hO4061; have hF := lrk_ret hK4062
      cases hF; obtain rfl := nxt_ret hO3936; have hF := lrk_ret hK3937; cases hF; refine r_ret (v := _) hE rfl ⟨_, _, _, rfl, hI.nil, rfl, none, rfl, Pt.nil⟩
    replace hF := cf hb4142 hF; refine c_skip ?_; refine xT ?_; refine c_seq ?_; obtain ⟨m4129, hF, hR4131⟩ := bd hF
    refine c_cut (fun a' w' => ∃ (G4127 : GH), G4112.le G4127 ∧ Env a' 192 [(8, .int .i64 (p0.length : Int)), (9, .pointer (some ⟨b157, 0, none⟩)), (15, .int .i64 (i3944 : Int)), (16, .int .i64 (i4069 : Int)), (190, .bool m4129)] ∧ Inv w0 G0 [] G4127 [] w') ?_ ?_
    rotate_left
    · clear hE hI; rintro a w ⟨G4127, hg4130, hE, hI⟩; clear hF; have hF := hR4131; clear hR4131; refine xT ?_; refine c_if (b := m4129) hE rfl (fun hb4132 => ?_) (fun hb4132 => ?_); rotate_left
      · replace hF := cf hb4132 hF; refine c_skip ?_; refine xB ?_; refine xT ?_; refine c_reg ?_; refine run tt_ok 3 hE rfl fun a hE => ?_; refine c_end ?_; refine xT ?_; cases hF
        have hE := hE.setI (t := 16) rfl (w64_succ hlt4074 (len_le h3))
        exact ⟨rest4071.length, Nat.lt_succ_self _, i4069 + 1, rest4071, _, G4127, rfl, hlt4074, hd4072, hO4061, ((hg4063.trans hg4115).trans hg4130), hE.keep ⟨rfl, rfl, rfl, rfl, trivial⟩, hI⟩
      replace hF := ct hb4132 hF; refine c_seq ?_; refine c_reg ?_; refine run tt_ok 2 hE rfl fun a hE => ?_; refine c_end ?_; refine xT ?_; refine c_ret ?_; refine xBr ?_; refine xTr ?_; refine xTr ?_; refine xBr ?_
      refine xTr ?_; refine xBr ?_; refine xTr ?_; refine xTr ?_; refine xBr ?_; refine xTr ?_; refine xTr ?_; cases hF; obtain rfl := nxt_ret hO4061; have hF := lrk_ret hK4062
      cases hF; obtain rfl := nxt_ret hO3936; have hF := lrk_ret hK3937; cases hF; refine r_ret (v := _) hE rfl ⟨_, _, _, rfl, hI.nil, rfl, none, rfl, Pt.nil⟩
    refine c_reg ?_; refine run tt_ok 3 hE rfl fun a hE => ?_; obtain ⟨y4133, hy4134, hF⟩ := bd hF
    refine s_call0 cl_12 hI hE rfl rfl ((ref03_Lattice_Join.ok k) _ _ _ _ hy4134 _ _ _ hI.pass0 (h3708.mono ((hg3938.trans hg4063).trans hg4115))) rfl ?_; clear hE hI; rintro a w _ G4136 _ ⟨rfl, rfl⟩ hg4135 hI hE
    refine run tt_ok 2 hE rfl fun a hE => ?_; rcases bool_or (decide (y4133 < (0 : Int))) with hb4137 | hb4137
    · replace hF := ct hb4137 hF; have hE := hE.tr (t := 184) rfl hb4137; clear hb4137; refine run tt_ok 6 hE rfl fun a hE => ?_; refine c_end ?_; refine xT ?_; cases hF
      exact ⟨G4136, hg4135, hE.keep ⟨rfl, rfl, rfl, rfl, rfl, trivial⟩, hI⟩
    replace hF := cf hb4137 hF; have hE := hE.tr (t := 184) rfl hb4137; clear hb4137; refine run tt_ok 3 hE rfl fun a hE => ?_; obtain ⟨y4138, hy4139, hF⟩ := bd hF
    refine s_call0 cl_14 hI hE rfl rfl ((ref03_Lattice_Meet.ok k) _ _ _ _ hy4139 _ _ _ hI.pass0 (h3708.mono (((hg3938.trans hg4063).trans hg4115).trans hg4135))) rfl ?_; clear hE hI
    rintro a w _ G4141 _ ⟨rfl, rfl⟩ hg4140 hI hE; refine run tt_ok 2 hE rfl fun a hE => ?_; refine c_end ?_; refine xT ?_; cases hF; exact ⟨G4141, (hg4135.trans hg4140), hE.keep ⟨rfl, rfl, rfl, rfl, rfl, trivial⟩, hI⟩
  refine c_block ?_
  refine wp_loop_ghost (fun n' a' w' => ∃ (i4182 : Nat) (rest4184 : List ByteArray) (s3636 : (List (List Bool))) (G3630 : GH) (A3632 : Option Addr) (c3633 : Nat) (cs3634 : List Value), n' = rest4184.length ∧ i4182 ≤ p0.length ∧ p0.drop i4182 = rest4184 ∧ forL (ref03_New.b2 k p0 p1) i4182 rest4184 s3636 = some o3637 ∧ G142.le G3630 ∧ Env a' 192 [(10, .int .i64 (i4182 : Int)), (0, .slice A1 p0.length c2), (1, .slice A4 p1.length c5), (8, .int .i64 (p0.length : Int)), (9, .pointer (some ⟨b157, 0, none⟩))] ∧ Inv w0 G0 [] G3630 [.row (.slice A3632 s3636.length c3633) 61 1 s3636.length cs3634, .blk b157 [.slice A152 (([] : List ByteArray) ++ p0).length c153, .slice A3632 s3636.length c3633] 60, .row (.slice A152 (([] : List ByteArray) ++ p0).length c153) 9 1 (([] : List ByteArray) ++ p0).length ([] ++ cs154)] w' ∧ RL G3630 1 (s3636.map (fun l => D.sl 1 (l.map D.bool))) cs3634) _ ⟨0, _, _, G142, none, 0, [], rfl, Nat.zero_le _, rfl, hO3638, (GH.le.refl _), hE.keep ⟨rfl, rfl, rfl, rfl, rfl, trivial⟩, hI, hR1312⟩ ?_
  clear hE hI hO3638; rintro m4181 a w ⟨i4182, rest4184, s3636, G3630, A3632, c3633, cs3634, rfl, hi4188, hd4185, hO3638, hg3640, hE, hI, hR3635⟩; rcases rest4184 with _ | ⟨x4183, rest4184⟩
  · obtain rfl := forL_nil hO3638; have hlt4187 := drop_nil hd4185 hi4188; clear hd4185; refine c_seq ?_; refine c_seq ?_; refine c_reg ?_; refine run tt_ok 3 hE rfl fun a hE => ?_; refine c_end ?_; refine xT ?_
    have hE := hE.tr (t := 88) rfl (decide_eq_false (by omega)); refine c_false hE rfl ?_; refine c_exit ?_; refine xTe ?_; refine xTe ?_; refine xBh ?_; refine xT ?_
    exact ⟨_, G3630, A3632, c3633, cs3634, rfl, hg3640, hE.keep ⟨rfl, rfl, trivial⟩, hI, hR3635⟩
  obtain ⟨stp4180, hF, hO3638⟩ := forL_step hO3638; obtain ⟨hx4186, hd4185, hlt4187⟩ := drop_cons hd4185; unfold ref03_New.b2 at hF; refine c_seq ?_; refine c_seq ?_; refine c_reg ?_
  refine run tt_ok 3 hE rfl fun a hE => ?_; refine c_end ?_; refine xT ?_; have hE := hE.tr (t := 88) rfl (decide_eq_true (by omega)); refine c_true hE rfl ?_; refine c_skip ?_; refine xT ?_; refine c_seq ?_
  refine c_block ?_; refine c_seq ?_; refine c_reg ?_; refine run tt_ok 1 hE rfl fun a hE => ?_; obtain ⟨z4189, hz4190, hF⟩ := bd hF
  refine s_make ai_61 z_4 rfl hI hE rfl rfl (mkO_some hz4190).1 (mkO_some hz4190).2.1 rfl fun a w b4191 hE hI => ?_
  have hR4192 : RL G3630 1 (z4189.map D.bool) (List.replicate z4189.length (.bool false)) := RL.made hz4190 (rep_bool.2 rfl); refine run tt_ok 1 hE rfl fun a hE => ?_; refine c_end ?_; refine xT ?_; refine c_seq ?_
  refine c_reg ?_; refine run tt_ok 2 hE rfl fun a hE => ?_; obtain ⟨y4194, hy4195, hF⟩ := bd hF; obtain ⟨ec4196, hel4197, hrep4198, hcs4199⟩ := rl_at hR4192 (getO_some hy4195).2; obtain rfl := rep_bool.1 hrep4198
  refine s_rt hI hE rfl (f_idx tt_ok (row_idx (getO_some hy4195).1 (getO_some hy4195).2 b4191 1) rfl rfl rfl) rfl fun a hE => ?_
  refine s_storeS (xs := z4189) (j := (i4182 : Int)) (y' := true) tt_ok 0 hI hE rfl rfl hcs4199 hel4197 (row_len hR4192 (getO_some hy4195).2) 0 rfl rfl rfl rfl rfl rfl rfl rfl fun a w hE hl4200 hI => ?_
  have hR4201 : RL G3630 1 ((setO z4189 (i4182 : Int) true).map D.bool) (putAt (List.replicate z4189.length (.bool false)) ((i4182 : Int).toNat * 1) [.bool true]) := RL.set hR4192 (row_lt (getO_some hy4195).2) (rep_bool.2 rfl) hl4200
  have hE := hE.setV (t := 92) rfl (sl_set (xs := z4189) (j := (i4182 : Int)) (y' := true)); have hE := hE.setV (t := 11) rfl (sl_set (xs := z4189) (j := (i4182 : Int)) (y' := true))
  have hE := hE.setV (t := 93) rfl (sl_set (xs := z4189) (j := (i4182 : Int)) (y' := true)); refine c_end ?_; refine xT ?_; refine c_seq ?_; refine c_seq ?_; refine c_reg ?_; refine run tt_ok 1 hE rfl fun a hE => ?_
  refine c_end ?_; refine xT ?_; obtain ⟨o4926, hO4927, hK4928⟩ := bd hF; clear hF
  refine c_cut (fun a' w' => ∃ (s4930 : (List Bool)) (G4931 : GH) (A4933 : Option Addr) (c4934 : Nat) (cs4935 : List Value), o4926 = .go s4930 ∧ G3630.le G4931 ∧ Env a' 192 [(0, .slice A1 p0.length c2), (1, .slice A4 p1.length c5), (8, .int .i64 (p0.length : Int)), (9, .pointer (some ⟨b157, 0, none⟩)), (10, .int .i64 (i4182 : Int)), (11, .slice A4933 s4930.length c4934)] ∧ Inv w0 G0 [] G4931 [.row (.slice A4933 s4930.length c4934) 4 1 s4930.length cs4935, .row (.slice A3632 s3636.length c3633) 61 1 s3636.length cs3634, .blk b157 [.slice A152 (([] : List ByteArray) ++ p0).length c153, .slice A3632 s3636.length c3633] 60, .row (.slice A152 (([] : List ByteArray) ++ p0).length c153) 9 1 (([] : List ByteArray) ++ p0).length ([] ++ cs154)] w' ∧ RL G4931 1 (s4930.map D.bool) cs4935) ?_ ?_
  rotate_left
  · clear hE hI hO4927; rintro a w ⟨s4930, G4931, A4933, c4934, cs4935, rfl, hg4937, hE, hI, hR4936⟩; have hF := lrk_go hK4928; clear hK4928; refine xT ?_; refine c_reg ?_; refine run tt_ok 4 hE rfl fun a hE => ?_
    refine s_rt hI hE rfl (f_loadB tt_ok 2 rfl rfl rfl rfl) rfl fun a hE => ?_; refine run tt_ok 1 hE rfl fun a hE => ?_; obtain ⟨G4948, hg4949, hI, h4950⟩ := (hI.front 0).giveR (xs := s4930.map D.bool) (by simp) hR4936
    refine s_bsl ai_58 hI hE rfl rfl rfl rfl rfl fun a w b4946 hE hI => ?_
    have hR4951 : RL G4948 1 ([s4930].map (fun l => D.sl 1 (l.map D.bool))) [.slice A4933 s4930.length c4934] := (RL.cons (rep_slm.2 ⟨A4933, c4934, rfl, h4950⟩) rfl RL.nil); obtain ⟨_, hb4952, hF⟩ := bd hF
    refine s_appO (f := (fun l => D.sl 1 (l.map D.bool))) (xs := s3636) (ys := [s4930]) ai_58 1 0 hI hE rfl rfl rfl hR4951 rfl rfl (lim_le hb4952) rfl fun a w A4953 c4954 hE hI => ?_
    have hR4956 := RL.appm (hR3635.mono (hg4937.trans hg4949)) hR4951; refine run tt_ok 2 hE rfl fun a hE => ?_; refine s_storeB tt_ok 2 hI hE rfl rfl rfl rfl rfl rfl rfl rfl rfl rfl fun a w hE hI => ?_; refine c_end ?_
    refine xB ?_; refine xT ?_; refine c_reg ?_; refine run tt_ok 3 hE rfl fun a hE => ?_; refine c_end ?_; refine xT ?_; cases hF; have hE := hE.setI (t := 10) rfl (w64_succ hlt4187 (len_le h3))
    exact ⟨rest4184.length, Nat.lt_succ_self _, i4182 + 1, rest4184, _, G4948, A4953, c4954, (cs3634 ++ [.slice A4933 s4930.length c4934]), rfl, hlt4187, hd4185, hO3638, ((hg3640.trans hg4937).trans hg4949), hE.keep ⟨rfl, rfl, rfl, rfl, rfl, trivial⟩, (hI.dropN 1 rfl), hR4956⟩
  refine c_block ?_
  refine wp_loop_ghost (fun n' a' w' => ∃ (i4959 : Nat) (rest4961 : List ByteArray) (s4925 : (List Bool)) (G4919 : GH) (A4921 : Option Addr) (c4922 : Nat) (cs4923 : List Value), n' = rest4961.length ∧ i4959 ≤ p0.length ∧ p0.drop i4959 = rest4961 ∧ forL (ref03_New.b3 k p0 p1) i4959 rest4961 s4925 = some o4926 ∧ G3630.le G4919 ∧ Env a' 192 [(12, .int .i64 (i4959 : Int)), (0, .slice A1 p0.length c2), (1, .slice A4 p1.length c5), (8, .int .i64 (p0.length : Int)), (9, .pointer (some ⟨b157, 0, none⟩)), (10, .int .i64 (i4182 : Int)), (11, .slice A4921 s4925.length c4922)] ∧ Inv w0 G0 [] G4919 [.row (.slice A4921 s4925.length c4922) 4 1 s4925.length cs4923, .row (.slice A3632 s3636.length c3633) 61 1 s3636.length cs3634, .blk b157 [.slice A152 (([] : List ByteArray) ++ p0).length c153, .slice A3632 s3636.length c3633] 60, .row (.slice A152 (([] : List ByteArray) ++ p0).length c153) 9 1 (([] : List ByteArray) ++ p0).length ([] ++ cs154)] w' ∧ RL G4919 1 (s4925.map D.bool) cs4923) _ ⟨0, _, _, G3630, (some ⟨b4191, 0, none⟩), z4189.length, (putAt (List.replicate z4189.length (.bool false)) ((i4182 : Int).toNat * 1) [.bool true]), rfl, Nat.zero_le _, rfl, hO4927, (GH.le.refl _), hE.keep ⟨rfl, rfl, rfl, rfl, rfl, rfl, rfl, trivial⟩, hI, hR4201⟩ ?_
  clear hE hI hO4927; rintro m4958 a w ⟨i4959, rest4961, s4925, G4919, A4921, c4922, cs4923, rfl, hi4965, hd4962, hO4927, hg4929, hE, hI, hR4924⟩; rcases rest4961 with _ | ⟨x4960, rest4961⟩
  · obtain rfl := forL_nil hO4927; have hlt4964 := drop_nil hd4962 hi4965; clear hd4962; refine c_seq ?_; refine c_seq ?_; refine c_reg ?_; refine run tt_ok 3 hE rfl fun a hE => ?_; refine c_end ?_; refine xT ?_
    have hE := hE.tr (t := 98) rfl (decide_eq_false (by omega)); refine c_false hE rfl ?_; refine c_exit ?_; refine xTe ?_; refine xTe ?_; refine xBh ?_; refine xT ?_
    exact ⟨_, G4919, A4921, c4922, cs4923, rfl, hg4929, hE.keep ⟨rfl, rfl, rfl, rfl, rfl, rfl, trivial⟩, hI, hR4924⟩
  obtain ⟨stp4957, hF, hO4927⟩ := forL_step hO4927; obtain ⟨hx4963, hd4962, hlt4964⟩ := drop_cons hd4962; unfold ref03_New.b3 at hF; refine c_seq ?_; refine c_seq ?_; refine c_reg ?_
  refine run tt_ok 3 hE rfl fun a hE => ?_; refine c_end ?_; refine xT ?_; have hE := hE.tr (t := 98) rfl (decide_eq_true (by omega)); refine c_true hE rfl ?_; refine c_skip ?_; refine xT ?_; refine c_seq ?_
  refine c_block ?_; refine c_seq ?_; refine c_reg ?_; refine s_bsl ai_61 hI hE rfl rfl rfl rfl rfl fun a w b4970 hE hI => ?_; have hR4972 : RL G4919 1 (([] : List Bool).map D.bool) [] := RL.nil
  refine run tt_ok 1 hE rfl fun a hE => ?_; obtain ⟨_, hb4973, hF⟩ := bd hF
  refine s_appO (f := D.bool) (xs := ([] : List Bool)) (ys := s4925) ai_61 0 1 hI hE rfl rfl rfl hR4924 rfl rfl (lim_le hb4973) rfl fun a w A4974 c4975 hE hI => ?_; have hR4977 := RL.appm hR4972 hR4924
  refine run tt_ok 1 hE rfl fun a hE => ?_; refine c_end ?_; refine xT ?_; refine c_seq ?_; refine c_seq ?_; refine c_reg ?_; refine run tt_ok 1 hE rfl fun a hE => ?_; refine c_end ?_; refine xT ?_
  obtain ⟨o5216, hO5217, hK5218⟩ := bd hF; clear hF
  refine c_cut (fun a' w' => ∃ (s5220 : (List Bool) × (List Bool)) (G5221 : GH) (A5223 : Option Addr) (c5224 : Nat) (cs5225 : List Value) (A5228 : Option Addr) (c5229 : Nat) (cs5230 : List Value), o5216 = .go s5220 ∧ G4919.le G5221 ∧ Env a' 192 [(0, .slice A1 p0.length c2), (1, .slice A4 p1.length c5), (8, .int .i64 (p0.length : Int)), (9, .pointer (some ⟨b157, 0, none⟩)), (10, .int .i64 (i4182 : Int)), (12, .int .i64 (i4959 : Int)), (13, .slice A5223 s5220.1.length c5224)] ∧ Inv w0 G0 [] G5221 [.row (.slice A5223 s5220.1.length c5224) 4 1 s5220.1.length cs5225, .row (.slice A5228 s5220.2.length c5229) 4 1 s5220.2.length cs5230, .row (.slice A3632 s3636.length c3633) 61 1 s3636.length cs3634, .blk b157 [.slice A152 (([] : List ByteArray) ++ p0).length c153, .slice A3632 s3636.length c3633] 60, .row (.slice A152 (([] : List ByteArray) ++ p0).length c153) 9 1 (([] : List ByteArray) ++ p0).length ([] ++ cs154)] w' ∧ RL G5221 1 (s5220.1.map D.bool) cs5225 ∧ RL G5221 1 (s5220.2.map D.bool) cs5230) ?_ ?_
  rotate_left
  · clear hE hI hO5217; rintro a w ⟨s5220, G5221, A5223, c5224, cs5225, A5228, c5229, cs5230, rfl, hg5232, hE, hI, hR5226, hR5231⟩; have hF := lrk_go hK5218; clear hK5218; refine xT ?_; refine c_reg ?_
    refine run tt_ok 2 hE rfl fun a hE => ?_; refine c_end ?_; refine xB ?_; refine xT ?_; refine c_reg ?_; refine run tt_ok 3 hE rfl fun a hE => ?_; refine c_end ?_; refine xT ?_; cases hF
    have hE := hE.setI (t := 12) rfl (w64_succ hlt4964 (len_le h3))
    exact ⟨rest4961.length, Nat.lt_succ_self _, i4959 + 1, rest4961, _, G5221, A5223, c5224, cs5225, rfl, hlt4964, hd4962, hO4927, (hg4929.trans hg5232), hE.keep ⟨rfl, rfl, rfl, rfl, rfl, rfl, rfl, trivial⟩, (hI.pick [0, 2, 3, 4] (by decide) rfl), hR5226⟩
  refine c_block ?_
  refine wp_loop_ghost (fun n' a' w' => ∃ (i5235 : Nat) (rest5237 : List TPair) (s5215 : (List Bool) × (List Bool)) (G5204 : GH) (A5206 : Option Addr) (c5207 : Nat) (cs5208 : List Value) (A5211 : Option Addr) (c5212 : Nat) (cs5213 : List Value), n' = rest5237.length ∧ i5235 ≤ p1.length ∧ p1.drop i5235 = rest5237 ∧ forL (ref03_New.b4 k p0) i5235 rest5237 s5215 = some o5216 ∧ G4919.le G5204 ∧ Env a' 192 [(14, .int .i64 (i5235 : Int)), (0, .slice A1 p0.length c2), (1, .slice A4 p1.length c5), (8, .int .i64 (p0.length : Int)), (9, .pointer (some ⟨b157, 0, none⟩)), (10, .int .i64 (i4182 : Int)), (11, .slice A5211 s5215.2.length c5212), (12, .int .i64 (i4959 : Int)), (13, .slice A5206 s5215.1.length c5207)] ∧ Inv w0 G0 [] G5204 [.row (.slice A5206 s5215.1.length c5207) 4 1 s5215.1.length cs5208, .row (.slice A5211 s5215.2.length c5212) 4 1 s5215.2.length cs5213, .row (.slice A3632 s3636.length c3633) 61 1 s3636.length cs3634, .blk b157 [.slice A152 (([] : List ByteArray) ++ p0).length c153, .slice A3632 s3636.length c3633] 60, .row (.slice A152 (([] : List ByteArray) ++ p0).length c153) 9 1 (([] : List ByteArray) ++ p0).length ([] ++ cs154)] w' ∧ RL G5204 1 (s5215.1.map D.bool) cs5208 ∧ RL G5204 1 (s5215.2.map D.bool) cs5213) _ ⟨0, _, _, G4919, A4974, c4975, ([] ++ cs4923), A4921, c4922, cs4923, rfl, Nat.zero_le _, rfl, hO5217, (GH.le.refl _), hE.keep ⟨rfl, rfl, rfl, rfl, rfl, rfl, rfl, rfl, rfl, trivial⟩, hI, hR4977, hR4924⟩ ?_
  clear hE hI hO5217; rintro m5234 a w ⟨i5235, rest5237, s5215, G5204, A5206, c5207, cs5208, A5211, c5212, cs5213, rfl, hi5241, hd5238, hO5217, hg5219, hE, hI, hR5209, hR5214⟩; rcases rest5237 with _ | ⟨x5236, rest5237⟩
  · obtain rfl := forL_nil hO5217; have hlt5240 := drop_nil hd5238 hi5241; clear hd5238; refine c_seq ?_; refine c_seq ?_; refine c_reg ?_; refine run tt_ok 4 hE rfl fun a hE => ?_; refine c_end ?_; refine xT ?_
    have hE := hE.tr (t := 107) rfl (decide_eq_false (by omega)); refine c_false hE rfl ?_; refine c_exit ?_; refine xTe ?_; refine xTe ?_; refine xBh ?_; refine xT ?_
    exact ⟨_, G5204, A5206, c5207, cs5208, A5211, c5212, cs5213, rfl, hg5219, hE.keep ⟨rfl, rfl, rfl, rfl, rfl, rfl, rfl, trivial⟩, hI, hR5209, hR5214⟩
  obtain ⟨stp5233, hF, hO5217⟩ := forL_step hO5217; obtain ⟨hx5239, hd5238, hlt5240⟩ := drop_cons hd5238; unfold ref03_New.b4 at hF; refine c_seq ?_; refine c_seq ?_; refine c_reg ?_
  refine run tt_ok 4 hE rfl fun a hE => ?_; refine c_end ?_; refine xT ?_; have hE := hE.tr (t := 107) rfl (decide_eq_true (by omega)); refine c_true hE rfl ?_; refine c_skip ?_; refine xT ?_; refine c_seq ?_
  obtain ⟨m5293, hF, hR5295⟩ := bd hF
  refine c_cut (fun a' w' => ∃ (G5282 : GH) (A5284 : Option Addr) (c5285 : Nat) (cs5286 : List Value) (A5289 : Option Addr) (c5290 : Nat) (cs5291 : List Value), G5204.le G5282 ∧ Env a' 192 [(0, .slice A1 p0.length c2), (1, .slice A4 p1.length c5), (8, .int .i64 (p0.length : Int)), (9, .pointer (some ⟨b157, 0, none⟩)), (10, .int .i64 (i4182 : Int)), (11, .slice A5289 m5293.2.length c5290), (12, .int .i64 (i4959 : Int)), (13, .slice A5284 m5293.1.length c5285), (14, .int .i64 (i5235 : Int))] ∧ Inv w0 G0 [] G5282 [.row (.slice A5284 m5293.1.length c5285) 4 1 m5293.1.length cs5286, .row (.slice A5289 m5293.2.length c5290) 4 1 m5293.2.length cs5291, .row (.slice A3632 s3636.length c3633) 61 1 s3636.length cs3634, .blk b157 [.slice A152 (([] : List ByteArray) ++ p0).length c153, .slice A3632 s3636.length c3633] 60, .row (.slice A152 (([] : List ByteArray) ++ p0).length c153) 9 1 (([] : List ByteArray) ++ p0).length ([] ++ cs154)] w' ∧ RL G5282 1 (m5293.1.map D.bool) cs5286 ∧ RL G5282 1 (m5293.2.map D.bool) cs5291) ?_ ?_
  rotate_left
  · clear hE hI; rintro a w ⟨G5282, A5284, c5285, cs5286, A5289, c5290, cs5291, hg5294, hE, hI, hR5287, hR5292⟩; clear hF; have hF := hR5295; clear hR5295; refine xT ?_; refine c_reg ?_
    refine run tt_ok 3 hE rfl fun a hE => ?_; refine c_end ?_; refine xT ?_; cases hF; have hE := hE.setI (t := 14) rfl (w64_succ hlt5240 (len_le h6))
    exact ⟨rest5237.length, Nat.lt_succ_self _, i5235 + 1, rest5237, _, G5282, A5284, c5285, cs5286, A5289, c5290, cs5291, rfl, hlt5240, hd5238, hO5217, (hg5219.trans hg5294), hE.keep ⟨rfl, rfl, rfl, rfl, rfl, rfl, rfl, rfl, rfl, trivial⟩, hI, hR5287, hR5292⟩
  refine c_block ?_; refine c_seq ?_; refine c_reg ?_; refine run tt_ok 4 hE rfl fun a hE => ?_
  obtain ⟨b5299, o5300, cs, hb5303, hR5302, hA5301⟩ := sl_at (h6.mono (((((hg11.trans hg84).trans hg143).trans hg3640).trans hg4929).trans hg5219)) (Int.natCast_nonneg _) (natIdx hx5239); obtain rfl := TPair.inv.1 hR5302
  refine s_rt hI hE rfl (f_idx tt_ok hb5303 rfl rfl rfl) rfl fun a hE => ?_; refine run tt_ok 1 hE rfl fun a hE => ?_; refine s_rt hI hE rfl (f_loadG tt_ok hA5301 0 rfl rfl rfl rfl) rfl fun a hE => ?_
  obtain ⟨y5304, hy5305, hF⟩ := bd hF
  refine s_call0 cl_27 hI hE rfl rfl ((ref03_Find.ok k) _ _ _ hy5305 _ _ _ _ hI.pass0 (h3.mono (((((hg11.trans hg84).trans hg143).trans hg3640).trans hg4929).trans hg5219))) rfl ?_; clear hE hI
  rintro a w _ G5307 _ ⟨rfl, rfl⟩ hg5306 hI hE; obtain ⟨y5308, hy5309, hF⟩ := bd hF; obtain ⟨b5314, rfl⟩ := row_ptr 1 hI rfl rfl (getO_some hy5309).2
  obtain ⟨ec5310, hel5311, hrep5312, hcs5313⟩ := rl_at (hR5214.mono hg5306) (getO_some hy5309).2; obtain rfl := rep_bool.1 hrep5312
  refine s_rt hI hE rfl (f_idx tt_ok (row_idx (getO_some hy5309).1 (getO_some hy5309).2 b5314 1) rfl rfl rfl) rfl fun a hE => ?_
  refine s_rt hI hE rfl (f_loadR tt_ok 1 rfl hcs5313 0 rfl rfl rfl rfl (row_len (hR5214.mono hg5306) (getO_some hy5309).2)) rfl fun a hE => ?_; refine c_end ?_; refine xT ?_
  refine c_if (b := y5308) hE rfl (fun hb5335 => ?_) (fun hb5335 => ?_); rotate_left
  · replace hF := cf hb5335 hF; refine c_skip ?_; refine xB ?_; refine xT ?_; cases hF
    exact ⟨G5307, A5206, c5207, cs5208, (some ⟨b5314, 0, none⟩), c5212, cs5213, hg5306, hE.keep ⟨rfl, rfl, rfl, rfl, rfl, rfl, rfl, rfl, rfl, trivial⟩, hI, (hR5209.mono hg5306), (hR5214.mono hg5306)⟩
  replace hF := ct hb5335 hF; refine c_reg ?_; refine run tt_ok 4 hE rfl fun a hE => ?_
  obtain ⟨b5317, o5318, cs, hb5321, hR5320, hA5319⟩ := sl_at (h6.mono ((((((hg11.trans hg84).trans hg143).trans hg3640).trans hg4929).trans hg5219).trans hg5306)) (Int.natCast_nonneg _) (natIdx hx5239)
  obtain rfl := TPair.inv.1 hR5320; refine s_rt hI hE rfl (f_idx tt_ok hb5321 rfl rfl rfl) rfl fun a hE => ?_; refine run tt_ok 1 hE rfl fun a hE => ?_
  refine s_rt hI hE rfl (f_loadG tt_ok hA5319 1 rfl rfl rfl rfl) rfl fun a hE => ?_; obtain ⟨y5322, hy5323, hF⟩ := bd hF
  refine s_call0 cl_27 hI hE rfl rfl ((ref03_Find.ok k) _ _ _ hy5323 _ _ _ _ hI.pass0 (h3.mono ((((((hg11.trans hg84).trans hg143).trans hg3640).trans hg4929).trans hg5219).trans hg5306))) rfl ?_; clear hE hI
  rintro a w _ G5325 _ ⟨rfl, rfl⟩ hg5324 hI hE; obtain ⟨y5326, hy5327, hF⟩ := bd hF; obtain ⟨b5332, rfl⟩ := row_ptr 0 hI rfl rfl (getO_some hy5327).2
  obtain ⟨ec5328, hel5329, hrep5330, hcs5331⟩ := rl_at (hR5209.mono (hg5306.trans hg5324)) (getO_some hy5327).2; obtain rfl := rep_bool.1 hrep5330
  refine s_rt hI hE rfl (f_idx tt_ok (row_idx (getO_some hy5327).1 (getO_some hy5327).2 b5332 1) rfl rfl rfl) rfl fun a hE => ?_
  refine s_storeS (xs := s5215.1) (j := y5322) (y' := true) tt_ok 0 hI hE rfl rfl hcs5331 hel5329 (row_len (hR5209.mono (hg5306.trans hg5324)) (getO_some hy5327).2) 0 rfl rfl rfl rfl rfl rfl rfl rfl fun a w hE hl5333 hI => ?_
  have hR5334 : RL G5325 1 ((setO s5215.1 y5322 true).map D.bool) (putAt cs5208 (y5322.toNat * 1) [.bool true]) := RL.set (hR5209.mono (hg5306.trans hg5324)) (row_lt (getO_some hy5327).2) (rep_bool.2 rfl) hl5333
  have hE := hE.setV (t := 13) rfl (sl_set (xs := s5215.1) (j := y5322) (y' := true)); have hE := hE.setV (t := 120) rfl (sl_set (xs := s5215.1) (j := y5322) (y' := true)); refine c_end ?_; refine xB ?_; refine xT ?_
  cases hF
  exact ⟨G5325, (some ⟨b5332, 0, none⟩), c5207, (putAt cs5208 (y5322.toNat * 1) [.bool true]), (some ⟨b5314, 0, none⟩), c5212, cs5213, (hg5306.trans hg5324), hE.keep ⟨rfl, rfl, rfl, rfl, rfl, rfl, rfl, rfl, rfl, trivial⟩, hI, hR5334, (hR5214.mono (hg5306.trans hg5324))⟩

theorem cl_15 : Callable Tryd.prog 15 := ⟨_, Tryd.func15, by kernel_rfl, by kernel_rfl⟩

def ref03_Ints.C (s : (List Int) → (List Int) → Option Bool) : Prop := ∀ (p0 : List Int) (p1 : List Int) (r : Bool), s p0 p1 = some r → ∀ (w0 : World) (G0 : GH) (A1 : Option Addr) (c2 : Nat) (A4 : Option Addr) (c5 : Nat), Inv w0 G0 [] G0 [] w0 → (Sl G0 A1 c2 1 (p0.map (D.int .i64))) → (Sl G0 A4 c5 1 (p1.map (D.int .i64))) → Calls Tryd.prog 15 #[.slice A1 p0.length c2, .slice A4 p1.length c5] w0 (Ret w0 G0 [] fun G' L' v => L' = [] ∧ v = .bool r)

theorem ref03_Ints.ok (k : Nat) : ref03_Ints.C (ref03_Ints k) := by
  intro p0 p1 r hF w0 G0 A1 c2 A4 c5 hI h3 h6
  unfold ref03_Ints at hF
  refine calls_of_wp Tryd.func15 rfl ?_
  have hE : Env _ 26 [(0, .slice A1 p0.length c2), (1, .slice A4 p1.length c5)] := Env.start ⟨[.slice A1 p0.length c2, .slice A4 p1.length c5]⟩ 24
  refine c_seq ?_; refine c_reg ?_; refine run tt_ok 1 hE rfl fun a hE => ?_; refine c_end ?_; refine xT ?_; refine c_seq ?_; refine c_seq ?_; refine c_reg ?_; refine run tt_ok 5 hE rfl fun a hE => ?_; refine c_end ?_
  refine xT ?_; refine c_if (b := !decide ((p0.length : Int) = (p1.length : Int))) hE rfl (fun hb59 => ?_) (fun hb59 => ?_)
  · replace hF := ct hb59 hF; refine c_seq ?_; refine c_reg ?_; refine run tt_ok 1 hE rfl fun a hE => ?_; refine c_end ?_; refine xT ?_; refine c_ret ?_; refine xTr ?_; cases hF
    refine r_ret (v := _) hE rfl ⟨_, _, _, rfl, hI.nil, rfl, rfl⟩
  replace hF := cf hb59 hF; refine c_skip ?_; refine xT ?_; refine c_seq ?_; refine c_seq ?_; refine c_reg ?_; refine run tt_ok 1 hE rfl fun a hE => ?_; refine c_end ?_; refine xT ?_
  obtain ⟨o28, hO29, hK30⟩ := bd hF; clear hF; refine c_cut (fun a' w' => ∃ (s32 : Unit) (G33 : GH), o28 = .go s32 ∧ G0.le G33 ∧ Env a' 26 [] ∧ Inv w0 G0 [] G33 [] w') ?_ ?_; rotate_left
  · clear hE hI hO29; rintro a w ⟨s32, G33, rfl, hg34, hE, hI⟩; have hF := lrk_go hK30; clear hK30; refine xT ?_; refine c_seq ?_; refine c_reg ?_; refine run tt_ok 1 hE rfl fun a hE => ?_; refine c_end ?_; refine xT ?_
    refine c_ret ?_; cases hF; refine r_ret (v := _) hE rfl ⟨_, _, _, rfl, hI.nil, rfl, rfl⟩
  refine c_block ?_
  refine wp_loop_ghost (fun n' a' w' => ∃ (i37 : Nat) (rest39 : List Int) (s27 : Unit) (G26 : GH), n' = rest39.length ∧ i37 ≤ p0.length ∧ p0.drop i37 = rest39 ∧ forL (ref03_Ints.b0 k p1) i37 rest39 s27 = some o28 ∧ G0.le G26 ∧ Env a' 26 [(5, .int .i64 (i37 : Int)), (0, .slice A1 p0.length c2), (1, .slice A4 p1.length c5)] ∧ Inv w0 G0 [] G26 [] w') _ ⟨0, _, _, G0, rfl, Nat.zero_le _, rfl, hO29, (GH.le.refl _), hE.keep ⟨rfl, rfl, rfl, trivial⟩, hI⟩ ?_
  clear hE hI hO29; rintro m36 a w ⟨i37, rest39, s27, G26, rfl, hi43, hd40, hO29, hg31, hE, hI⟩; rcases rest39 with _ | ⟨x38, rest39⟩
  · obtain rfl := forL_nil hO29; have hlt42 := drop_nil hd40 hi43; clear hd40; refine c_seq ?_; refine c_seq ?_; refine c_reg ?_; refine run tt_ok 4 hE rfl fun a hE => ?_; refine c_end ?_; refine xT ?_
    have hE := hE.tr (t := 14) rfl (decide_eq_false (by omega)); refine c_false hE rfl ?_; refine c_exit ?_; refine xTe ?_; refine xTe ?_; refine xBh ?_; refine xT ?_; exact ⟨_, G26, rfl, hg31, hE.keep trivial, hI⟩
  obtain ⟨stp35, hF, hO29⟩ := forL_step hO29; obtain ⟨hx41, hd40, hlt42⟩ := drop_cons hd40; unfold ref03_Ints.b0 at hF; refine c_seq ?_; refine c_seq ?_; refine c_reg ?_; refine run tt_ok 4 hE rfl fun a hE => ?_
  refine c_end ?_; refine xT ?_; have hE := hE.tr (t := 14) rfl (decide_eq_true (by omega)); refine c_true hE rfl ?_; refine c_skip ?_; refine xT ?_; refine c_seq ?_; refine c_block ?_; refine c_seq ?_
  refine c_draw mixed (by kernel_rfl) hI ?_; clear hI; refine runq tt_ok 2 hE rfl fun a hE => ?_; obtain ⟨b46, o47, cs, hb50, hR49, hA48⟩ := sl_at (h3.mono hg31) (Int.natCast_nonneg _) (natIdx hx41)
  obtain rfl := rep_int.1 hR49; refine q_rt hE rfl (f_idx tt_ok hb50 rfl rfl rfl) rfl fun a hE => ?_; refine q_rt hE rfl (f_loadG tt_ok hA48 0 rfl rfl rfl rfl) rfl fun a hE => ?_; refine runq tt_ok 2 hE rfl fun a hE => ?_
  obtain ⟨y55, hy56, hF⟩ := bd hF; obtain ⟨b51, o52, cs, hb57, hR54, hA53⟩ := sl_at (h6.mono hg31) (getO_some hy56).1 (getO_some hy56).2; obtain rfl := rep_int.1 hR54
  refine q_rt hE rfl (f_idx tt_ok hb57 rfl rfl rfl) rfl fun a hE => ?_; refine q_rt hE rfl (f_loadG tt_ok hA53 0 rfl rfl rfl rfl) rfl fun a hE => ?_; refine runq tt_ok 1 hE rfl fun a hE => ?_; refine q_end ?_; intro w hI
  refine xT ?_; refine c_if (b := !decide (x38 = y55)) hE rfl (fun hb58 => ?_) (fun hb58 => ?_)
  · replace hF := ct hb58 hF; refine c_seq ?_; refine c_reg ?_; refine run tt_ok 1 hE rfl fun a hE => ?_; refine c_end ?_; refine xT ?_; refine c_ret ?_; refine xBr ?_; refine xTr ?_; refine xTr ?_; refine xBr ?_
    refine xTr ?_; refine xTr ?_; cases hF; obtain rfl := nxt_ret hO29; have hF := lrk_ret hK30; cases hF; refine r_ret (v := _) hE rfl ⟨_, _, _, rfl, hI.nil, rfl, rfl⟩
  replace hF := cf hb58 hF; refine c_skip ?_; refine xB ?_; refine xT ?_; refine c_reg ?_; refine run tt_ok 3 hE rfl fun a hE => ?_; refine c_end ?_; refine xT ?_; cases hF
  have hE := hE.setI (t := 5) rfl (w64_succ hlt42 (len_le h3)); exact ⟨rest39.length, Nat.lt_succ_self _, i37 + 1, rest39, _, G26, rfl, hlt42, hd40, hO29, hg31, hE.keep ⟨rfl, rfl, rfl, trivial⟩, hI⟩

theorem cl_31 : Callable Tryd.prog 31 := ⟨_, Tryd.func31, by kernel_rfl, by kernel_rfl⟩

def math_bits_TrailingZeros32.C (s : Int → Option Int) : Prop := ∀ (p0 : Int) (r : Int), s p0 = some r → ∀ (w0 : World) (G0 : GH) , Inv w0 G0 [] G0 [] w0 → (Gl0 G0) → Calls Tryd.prog 31 #[.int .u32 p0] w0 (Ret w0 G0 [] fun G' L' v => L' = [] ∧ v = .int .i64 r)

theorem math_bits_TrailingZeros32.ok (k : Nat) : math_bits_TrailingZeros32.C (math_bits_TrailingZeros32 k) := by
  intro p0 r hF w0 G0  hI hGl0
  unfold math_bits_TrailingZeros32 at hF
  refine calls_of_wp Tryd.func31 rfl ?_
  have hE : Env _ 14 [(0, .int .u32 p0)] := Env.start ⟨[.int .u32 p0]⟩ 13
  refine c_seq ?_; refine c_reg ?_; refine run tt_ok 1 hE rfl fun a hE => ?_; refine c_end ?_; refine xT ?_; refine c_seq ?_; refine c_seq ?_; refine c_reg ?_; refine run tt_ok 2 hE rfl fun a hE => ?_; refine c_end ?_
  refine xT ?_; refine c_if (b := decide (p0 = (0 : Int))) hE rfl (fun hb6 => ?_) (fun hb6 => ?_)
  · replace hF := ct hb6 hF; refine c_seq ?_; refine c_reg ?_; refine run tt_ok 1 hE rfl fun a hE => ?_; refine c_end ?_; refine xT ?_; refine c_ret ?_; refine xTr ?_; cases hF
    refine r_ret (v := _) hE rfl ⟨_, _, _, rfl, hI.nil, rfl, rfl⟩
  replace hF := cf hb6 hF; refine c_skip ?_; refine xT ?_; refine c_seq ?_; refine c_reg ?_; refine run tt_ok 5 hE rfl fun a hE => ?_; obtain ⟨z3, hz4, hF⟩ := bd hF
  refine s_rt hI hE rfl (f_shr rfl rfl hz4) rfl fun a hE => ?_; obtain ⟨_, hb5, hF⟩ := bd hF; refine s_rt hI hE rfl (f_aidx tt_ok ua_67 rfl rfl rfl rfl hb5) rfl fun a hE => ?_
  refine s_rt hI hE rfl (f_loadT tt_ok hGl0 (Nat.lt_of_lt_of_eq (inB_lt hb5).2.1 gt0_len.symm) rfl (by omega) rfl) rfl fun a hE => ?_; refine run tt_ok 2 hE rfl fun a hE => ?_; refine c_end ?_; refine xT ?_; refine c_ret ?_
  cases hF; refine r_ret (v := _) hE rfl ⟨_, _, _, rfl, hI.nil, rfl, rfl⟩
end Go.Proofs.YtliaopbgkcdibaaDoor
