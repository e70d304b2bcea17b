/- The contracts: what the machine does at a call is what the plain function says. Written by mk.py. -/
import Derived.Test.YtliaopbgkcdibaaCgS7
set_option linter.unusedVariables false
set_option linter.unusedSimpArgs false
set_option maxRecDepth 100000
namespace Go.Proofs.Ytliaopbgkcdibaa
open Go.RowKit
theorem ref05_one.ok (k : Nat) : ref05_one.C (ref05_one k) := by
  intro p0 p1 r hF w0 G0  hI 
  unfold ref05_one at hF
  refine calls_of_wp Try.func125 rfl ?_
  have hE : Env _ 166 [(0, .string p0), (1, .int .i64 p1)] := Env.start ⟨[.string p0, .int .i64 p1]⟩ 164
  refine c_seq ?_; refine c_reg ?_; refine s_alloc hI hE rfl z_172 rfl rfl fun a w b1 hE hI => ?_; refine run tt_ok 3 hE rfl fun a hE => ?_; refine c_end ?_; refine xT ?_; refine c_seq ?_; refine c_reg ?_
  refine s_rt hI hE rfl (f_build tt_ok rfl z_172 rfl rfl) rfl fun a hE => ?_; refine s_alloc hI hE rfl z_172 rfl rfl fun a w b2 hE hI => ?_
  refine s_storeB tt_ok 0 hI hE rfl rfl rfl rfl rfl rfl rfl rfl rfl rfl fun a w hE hI => ?_; refine c_end ?_; refine xT ?_; refine c_seq ?_; refine c_reg ?_; refine run tt_ok 2 hE rfl fun a hE => ?_; refine c_end ?_
  refine xT ?_; refine c_seq ?_; refine c_seq ?_; obtain ⟨m20, hF, hR22⟩ := bd hF
  refine c_cut (fun a' w' => ∃ (G18 : GH), G0.le G18 ∧ Env a' 166 [(0, .string p0), (1, .int .i64 p1), (4, .pointer (some ⟨b1, 0, none⟩)), (8, .pointer (some ⟨b2, 0, none⟩)), (9, .int .i64 p1), (30, .bool m20)] ∧ Inv w0 G0 [] G18 [.blk b2 [.int .i64 (0 : Int), .string (⟨#[]⟩ : ByteArray), .int .i64 (0 : Int), .int .i64 (0 : Int)] 172, .blk b1 [.int .i64 (0 : Int), .string (⟨#[]⟩ : ByteArray), .int .i64 (0 : Int), .int .i64 (0 : Int)] 172] w') ?_ ?_
  · refine c_reg ?_; refine run tt_ok 2 hE rfl fun a hE => ?_; obtain ⟨z413, hz414, hF⟩ := bd hF; refine s_rt hI hE rfl (f_sidx tt_ok rfl rfl rfl hz414) rfl fun a hE => ?_; obtain ⟨y415, hy416, hF⟩ := bd hF
    refine s_call0 cl_129 hI hE rfl rfl ((ref05_letter.ok k) _ _ hy416 _ _  hI.pass0 ) rfl ?_; clear hE hI; rintro a w _ G418 _ ⟨rfl, rfl⟩ hg417 hI hE; refine run tt_ok 1 hE rfl fun a hE => ?_
    rcases bool_or y415 with hb419 | hb419
    · replace hF := ct hb419 hF; have hE := hE.tr (t := 25) rfl hb419; clear hb419; refine run tt_ok 5 hE rfl fun a hE => ?_; refine c_end ?_; refine xT ?_; cases hF
      exact ⟨G418, hg417, hE.keep ⟨rfl, rfl, rfl, rfl, rfl, rfl, trivial⟩, hI⟩
    replace hF := cf hb419 hF; have hE := hE.tr (t := 25) rfl hb419; clear hb419; refine run tt_ok 2 hE rfl fun a hE => ?_; obtain ⟨z420, hz421, hF⟩ := bd hF
    refine s_rt hI hE rfl (f_sidx tt_ok rfl rfl rfl hz421) rfl fun a hE => ?_; obtain ⟨y422, hy423, hF⟩ := bd hF; refine s_call0 cl_130 hI hE rfl rfl ((ref05_digit.ok k) _ _ hy423 _ _  hI.pass0 ) rfl ?_; clear hE hI
    rintro a w _ G425 _ ⟨rfl, rfl⟩ hg424 hI hE; refine run tt_ok 1 hE rfl fun a hE => ?_; refine c_end ?_; refine xT ?_; cases hF; exact ⟨G425, (hg417.trans hg424), hE.keep ⟨rfl, rfl, rfl, rfl, rfl, rfl, trivial⟩, hI⟩
  clear hE hI; rintro a w ⟨G18, hg21, hE, hI⟩; clear hF; have hF := hR22; clear hR22; refine xT ?_; refine c_if (b := m20) hE rfl (fun hb412 => ?_) (fun hb412 => ?_); rotate_left
  · replace hF := cf hb412 hF; refine c_skip ?_; refine xT ?_; refine c_seq ?_; refine c_seq ?_; refine c_reg ?_; refine run tt_ok 2 hE rfl fun a hE => ?_; obtain ⟨z235, hz236, hF⟩ := bd hF
    refine s_rt hI hE rfl (f_sidx tt_ok rfl rfl rfl hz236) rfl fun a hE => ?_; refine run tt_ok 1 hE rfl fun a hE => ?_; refine c_end ?_; refine xT ?_
    refine c_if (b := decide (z235 = (39 : Int))) hE rfl (fun hb411 => ?_) (fun hb411 => ?_)
    · replace hF := ct hb411 hF; refine c_seq ?_; refine c_reg ?_; refine run tt_ok 2 hE rfl fun a hE => ?_; obtain ⟨y241, hy242, hF⟩ := bd hF
      refine s_call0 cl_131 hI hE rfl rfl ((ref05_text.ok k) _ _ _ hy242 _ _  hI.pass0 ) rfl ?_; clear hE hI; rintro a w _ G244 _ ⟨rfl, rfl⟩ hg243 hI hE; refine run tt_ok 9 hE rfl fun a hE => ?_; refine c_end ?_; refine xT ?_
      refine c_seq ?_; refine c_seq ?_; refine c_reg ?_; refine run tt_ok 2 hE rfl fun a hE => ?_; refine c_end ?_; refine xT ?_; refine c_if (b := !decide (y241.2.2.2 = (0 : Int))) hE rfl (fun hb246 => ?_) (fun hb246 => ?_)
      · replace hF := ct hb246 hF; refine c_seq ?_; refine c_reg ?_; refine s_rt hI hE rfl (f_loadB tt_ok 0 rfl rfl rfl rfl) rfl fun a hE => ?_; refine run tt_ok 2 hE rfl fun a hE => ?_
        refine s_storeB tt_ok 1 hI hE rfl rfl rfl rfl rfl rfl rfl rfl rfl rfl fun a w hE hI => ?_; refine run tt_ok 3 hE rfl fun a hE => ?_; refine c_end ?_; refine xT ?_; refine c_ret ?_; refine xTr ?_; refine xTr ?_; cases hF
        refine r_retC tt_ok hE hI (.cell 1 rfl rfl rfl rfl (.tmp rfl (.tmp rfl (.tmp rfl .nil)))) rfl ⟨_, _, _, rfl, hI.nil, rfl, _, rfl, (TToken.inv.2 rfl)⟩
      replace hF := cf hb246 hF; refine c_skip ?_; refine xT ?_; refine c_seq ?_; refine c_reg ?_; refine run tt_ok 2 hE rfl fun a hE => ?_; refine s_rt hI hE rfl (f_build tt_ok rfl z_172 rfl rfl) rfl fun a hE => ?_
      refine run tt_ok 1 hE rfl fun a hE => ?_; refine s_storeB tt_ok 1 hI hE rfl rfl rfl rfl rfl rfl rfl rfl rfl rfl fun a w hE hI => ?_; refine run tt_ok 3 hE rfl fun a hE => ?_; refine c_end ?_; refine xT ?_; refine c_ret ?_
      refine xTr ?_; cases hF; refine r_retC tt_ok hE hI (.cell 1 rfl rfl rfl rfl (.tmp rfl (.tmp rfl (.tmp rfl .nil)))) rfl ⟨_, _, _, rfl, hI.nil, rfl, _, rfl, (TToken.inv.2 rfl)⟩
    replace hF := cf hb411 hF; refine c_skip ?_; refine xT ?_; refine c_seq ?_; refine c_reg ?_; obtain ⟨y251, hy252, hF⟩ := bd hF
    refine s_call0 cl_132 hI hE rfl rfl ((ref05_Marks.ok k) _ hy252 _ _  hI.pass0 ) rfl ?_; clear hE hI; rintro a w _ G254 _ ⟨rfl, A255, c256, rfl, h257⟩ hg253 hI hE; refine run tt_ok 1 hE rfl fun a hE => ?_; refine c_end ?_
    refine xT ?_; refine c_seq ?_; refine c_seq ?_; refine c_reg ?_; refine run tt_ok 1 hE rfl fun a hE => ?_; refine c_end ?_; refine xT ?_; obtain ⟨o329, hO330, hK331⟩ := bd hF; clear hF
    refine c_cut (fun a' w' => ∃ (s333 : Unit) (G334 : GH), o329 = .go s333 ∧ G254.le G334 ∧ Env a' 166 [(1, .int .i64 p1), (4, .pointer (some ⟨b1, 0, none⟩)), (8, .pointer (some ⟨b2, 0, none⟩))] ∧ Inv w0 G0 [] G334 [.blk b2 [.int .i64 (0 : Int), .string (⟨#[]⟩ : ByteArray), .int .i64 (0 : Int), .int .i64 (0 : Int)] 172, .blk b1 [.int .i64 (0 : Int), .string (⟨#[]⟩ : ByteArray), .int .i64 (0 : Int), .int .i64 (0 : Int)] 172] w') ?_ ?_
    rotate_left
    · clear hE hI hO330; rintro a w ⟨s333, G334, rfl, hg335, hE, hI⟩; have hF := lrk_go hK331; clear hK331; refine xT ?_; refine c_seq ?_; refine c_reg ?_
      refine s_rt hI hE rfl (f_loadB tt_ok 0 rfl rfl rfl rfl) rfl fun a hE => ?_; refine run tt_ok 1 hE rfl fun a hE => ?_; refine s_storeB tt_ok 1 hI hE rfl rfl rfl rfl rfl rfl rfl rfl rfl rfl fun a w hE hI => ?_
      refine run tt_ok 3 hE rfl fun a hE => ?_; refine c_end ?_; refine xT ?_; refine c_ret ?_; cases hF
      refine r_retC tt_ok hE hI (.cell 1 rfl rfl rfl rfl (.tmp rfl (.tmp rfl (.tmp rfl .nil)))) rfl ⟨_, _, _, rfl, hI.nil, rfl, _, rfl, (TToken.inv.2 rfl)⟩
    refine c_block ?_
    refine wp_loop_ghost (fun n' a' w' => ∃ (i339 : Nat) (rest341 : List ByteArray) (s328 : Unit) (G327 : GH), n' = rest341.length ∧ i339 ≤ y251.length ∧ y251.drop i339 = rest341 ∧ forL (ref05_one.b2 k p0 p1) i339 rest341 s328 = some o329 ∧ G254.le G327 ∧ Env a' 166 [(18, .int .i64 (i339 : Int)), (0, .string p0), (1, .int .i64 p1), (4, .pointer (some ⟨b1, 0, none⟩)), (8, .pointer (some ⟨b2, 0, none⟩)), (17, .slice A255 y251.length c256)] ∧ Inv w0 G0 [] G327 [.blk b2 [.int .i64 (0 : Int), .string (⟨#[]⟩ : ByteArray), .int .i64 (0 : Int), .int .i64 (0 : Int)] 172, .blk b1 [.int .i64 (0 : Int), .string (⟨#[]⟩ : ByteArray), .int .i64 (0 : Int), .int .i64 (0 : Int)] 172] w') _ ⟨0, _, _, G254, rfl, Nat.zero_le _, rfl, hO330, (GH.le.refl _), hE.keep ⟨rfl, rfl, rfl, rfl, rfl, rfl, trivial⟩, hI⟩ ?_
    clear hE hI hO330; rintro m338 a w ⟨i339, rest341, s328, G327, rfl, hi345, hd342, hO330, hg332, hE, hI⟩; rcases rest341 with _ | ⟨x340, rest341⟩
    · obtain rfl := forL_nil hO330; have hlt344 := drop_nil hd342 hi345; clear hd342; refine c_seq ?_; refine c_seq ?_; refine c_reg ?_; refine run tt_ok 4 hE rfl fun a hE => ?_; refine c_end ?_; refine xT ?_
      have hE := hE.tr (t := 121) rfl (decide_eq_false (by omega)); refine c_false hE rfl ?_; refine c_exit ?_; refine xTe ?_; refine xTe ?_; refine xBh ?_; refine xT ?_
      exact ⟨_, G327, rfl, hg332, hE.keep ⟨rfl, rfl, rfl, trivial⟩, hI⟩
    obtain ⟨stp337, hF, hO330⟩ := forL_step hO330; obtain ⟨hx343, hd342, hlt344⟩ := drop_cons hd342; unfold ref05_one.b2 at hF; refine c_seq ?_; refine c_seq ?_; refine c_reg ?_; refine run tt_ok 4 hE rfl fun a hE => ?_
    refine c_end ?_; refine xT ?_; have hE := hE.tr (t := 121) rfl (decide_eq_true (by omega)); refine c_true hE rfl ?_; refine c_skip ?_; refine xT ?_; refine c_seq ?_; refine c_block ?_; refine c_seq ?_
    obtain ⟨m367, hF, hR369⟩ := bd hF
    refine c_cut (fun a' w' => ∃ (G365 : GH), G327.le G365 ∧ Env a' 166 [(0, .string p0), (1, .int .i64 p1), (4, .pointer (some ⟨b1, 0, none⟩)), (8, .pointer (some ⟨b2, 0, none⟩)), (17, .slice A255 y251.length c256), (18, .int .i64 (i339 : Int)), (150, .bool m367)] ∧ Inv w0 G0 [] G365 [.blk b2 [.int .i64 (0 : Int), .string (⟨#[]⟩ : ByteArray), .int .i64 (0 : Int), .int .i64 (0 : Int)] 172, .blk b1 [.int .i64 (0 : Int), .string (⟨#[]⟩ : ByteArray), .int .i64 (0 : Int), .int .i64 (0 : Int)] 172] w') ?_ ?_
    · refine c_draw mixed (by kernel_rfl) hI ?_; clear hI; refine runq tt_ok 6 hE rfl fun a hE => ?_; obtain ⟨b393, o394, cs, hb397, hR396, hA395⟩ := sl_at (h257.mono hg332) (Int.natCast_nonneg _) (natIdx hx343)
      obtain rfl := rep_str.1 hR396; refine q_rt hE rfl (f_idx tt_ok hb397 rfl rfl rfl) rfl fun a hE => ?_; refine q_rt hE rfl (f_loadG tt_ok hA395 0 rfl rfl rfl rfl) rfl fun a hE => ?_
      refine runq tt_ok 3 hE rfl fun a hE => ?_; rcases bool_or (decide ((x340.size : Int) ≤ (w64 ((p0.size : Int) - p1)))) with hb398 | hb398; rotate_left
      · replace hF := cf hb398 hF; have hE := hE.tr (t := 134) rfl hb398; clear hb398; refine runq tt_ok 16 hE rfl fun a hE => ?_; refine q_end ?_; intro w hI; refine xT ?_; cases hF
        exact ⟨G327, (GH.le.refl _), hE.keep ⟨rfl, rfl, rfl, rfl, rfl, rfl, rfl, trivial⟩, hI⟩
      replace hF := ct hb398 hF; have hE := hE.tr (t := 134) rfl hb398; clear hb398; refine runq tt_ok 5 hE rfl fun a hE => ?_
      obtain ⟨b399, o400, cs, hb403, hR402, hA401⟩ := sl_at (h257.mono hg332) (Int.natCast_nonneg _) (natIdx hx343); obtain rfl := rep_str.1 hR402; refine q_rt hE rfl (f_idx tt_ok hb403 rfl rfl rfl) rfl fun a hE => ?_
      refine q_rt hE rfl (f_loadG tt_ok hA401 0 rfl rfl rfl rfl) rfl fun a hE => ?_; refine runq tt_ok 2 hE rfl fun a hE => ?_; obtain ⟨z404, hz405, hF⟩ := bd hF
      refine q_rt hE rfl (f_scut tt_ok rfl rfl rfl rfl hz405) rfl fun a hE => ?_; refine runq tt_ok 2 hE rfl fun a hE => ?_
      obtain ⟨b406, o407, cs, hb410, hR409, hA408⟩ := sl_at (h257.mono hg332) (Int.natCast_nonneg _) (natIdx hx343); obtain rfl := rep_str.1 hR409; refine q_rt hE rfl (f_idx tt_ok hb410 rfl rfl rfl) rfl fun a hE => ?_
      refine q_rt hE rfl (f_loadG tt_ok hA408 0 rfl rfl rfl rfl) rfl fun a hE => ?_; refine runq tt_ok 2 hE rfl fun a hE => ?_; refine q_end ?_; intro w hI; refine xT ?_; cases hF
      exact ⟨G327, (GH.le.refl _), hE.keep ⟨rfl, rfl, rfl, rfl, rfl, rfl, rfl, trivial⟩, hI⟩
    clear hE hI; rintro a w ⟨G365, hg368, hE, hI⟩; clear hF; have hF := hR369; clear hR369; refine xT ?_; refine c_if (b := m367) hE rfl (fun hb392 => ?_) (fun hb392 => ?_); rotate_left
    · replace hF := cf hb392 hF; refine c_skip ?_; refine xB ?_; refine xT ?_; refine c_reg ?_; refine run tt_ok 3 hE rfl fun a hE => ?_; refine c_end ?_; refine xT ?_; cases hF
      have hE := hE.setI (t := 18) rfl (w64_succ hlt344 (len_le h257))
      exact ⟨rest341.length, Nat.lt_succ_self _, i339 + 1, rest341, _, G365, rfl, hlt344, hd342, hO330, (hg332.trans hg368), hE.keep ⟨rfl, rfl, rfl, rfl, rfl, rfl, trivial⟩, hI⟩
    replace hF := ct hb392 hF; refine c_seq ?_
    refine c_mix [] (.step 0 0 (.step 1 0 (.step 2 0 (.step 3 1 (.step 4 0 (.step 5 0 (.step 6 0 (.step 7 0 (.step 8 0 (.step 9 0 (.step 10 1 (.step 11 0 (.step 12 0 (.step 13 2 (.step 14 0 (.step 15 0 (.step 16 0 .nil))))))))))))))))) [] mixed (by kernel_rfl) hI ?_; clear hI; intro w hI
    have hS := hI.sw (Ls := []) [] (by decide) rfl (GH.le.refl _); refine mix_run tt_ok 2 hE rfl fun a hE => ?_
    obtain ⟨b382, o383, cs, hb386, hR385, hA384⟩ := sl_at (h257.mono (hg332.trans hg368)) (Int.natCast_nonneg _) (natIdx hx343); obtain rfl := rep_str.1 hR385
    refine d_rt hE rfl rfl (f_idx tt_ok hb386 rfl rfl rfl) rfl fun a hE => ?_; refine d_ld hS hE rfl rfl (RT.sw fun _ => (f_loadG tt_ok hA384 0 rfl rfl rfl rfl)) rfl fun a hE => ?_
    refine mix_run tt_ok 1 hE rfl fun a hE => ?_; refine d_rt hE rfl rfl (f_build tt_ok rfl z_172 rfl rfl) rfl fun a hE => ?_; refine mix_run tt_ok 3 hE rfl fun a hE => ?_
    obtain ⟨b387, o388, cs, hb391, hR390, hA389⟩ := sl_at (h257.mono (hg332.trans hg368)) (Int.natCast_nonneg _) (natIdx hx343); obtain rfl := rep_str.1 hR390
    refine d_rt hE rfl rfl (f_idx tt_ok hb391 rfl rfl rfl) rfl fun a hE => ?_; refine d_ld hS hE rfl rfl (RT.sw fun _ => (f_loadG tt_ok hA389 0 rfl rfl rfl rfl)) rfl fun a hE => ?_
    refine mix_run tt_ok 2 hE rfl fun a hE => ?_; refine d_eff rfl ?_; refine s_storeB tt_ok 1 hI hE rfl rfl rfl rfl rfl rfl rfl rfl rfl rfl fun a w hE hI => ?_
    have hS := hI.sw (Ls := []) [] (by decide) rfl (GH.le.refl _); refine d_next hS ?_; refine mix_run tt_ok 3 hE rfl fun a hE => ?_; refine d_end ?_; refine xT ?_; refine c_ret ?_; refine xBr ?_; refine xTr ?_; refine xTr ?_
    refine xBr ?_; refine xTr ?_; refine xTr ?_; cases hF; obtain rfl := nxt_ret hO330; have hF := lrk_ret hK331; cases hF
    refine r_retC tt_ok hE hI (.cell 1 rfl rfl rfl rfl (.tmp rfl (.tmp rfl (.tmp rfl .nil)))) rfl ⟨_, _, _, rfl, hI.nil, rfl, _, rfl, (TToken.inv.2 rfl)⟩
  replace hF := ct hb412 hF; refine c_seq ?_; refine c_reg ?_; refine run tt_ok 2 hE rfl fun a hE => ?_; obtain ⟨z25, hz26, hF⟩ := bd hF; refine s_rt hI hE rfl (f_sidx tt_ok rfl rfl rfl hz26) rfl fun a hE => ?_
  obtain ⟨y27, hy28, hF⟩ := bd hF; refine s_call0 cl_129 hI hE rfl rfl ((ref05_letter.ok k) _ _ hy28 _ _  hI.pass0 ) rfl ?_; clear hE hI; rintro a w _ G30 _ ⟨rfl, rfl⟩ hg29 hI hE; refine run tt_ok 1 hE rfl fun a hE => ?_
  refine c_end ?_; refine xT ?_; refine c_seq ?_; obtain ⟨o115, hO116, hK117⟩ := bd hF; clear hF
  refine c_cut (fun a' w' => ∃ (s119 : Int) (G120 : GH), o115 = .go s119 ∧ G30.le G120 ∧ Env a' 166 [(0, .string p0), (1, .int .i64 p1), (4, .pointer (some ⟨b1, 0, none⟩)), (8, .pointer (some ⟨b2, 0, none⟩)), (9, .int .i64 s119), (10, .bool y27)] ∧ Inv w0 G0 [] G120 [.blk b2 [.int .i64 (0 : Int), .string (⟨#[]⟩ : ByteArray), .int .i64 (0 : Int), .int .i64 (0 : Int)] 172, .blk b1 [.int .i64 (0 : Int), .string (⟨#[]⟩ : ByteArray), .int .i64 (0 : Int), .int .i64 (0 : Int)] 172] w') ?_ ?_
  · refine c_block ?_
    refine wp_loop_ghost (fun n' a' w' => ∃ (s114 : Int) (G112 : GH), whileL (ref05_one.b1 k p0 y27) n' s114 = some o115 ∧ G30.le G112 ∧ Env a' 166 [(0, .string p0), (1, .int .i64 p1), (4, .pointer (some ⟨b1, 0, none⟩)), (8, .pointer (some ⟨b2, 0, none⟩)), (9, .int .i64 s114), (10, .bool y27)] ∧ Inv w0 G0 [] G112 [.blk b2 [.int .i64 (0 : Int), .string (⟨#[]⟩ : ByteArray), .int .i64 (0 : Int), .int .i64 (0 : Int)] 172, .blk b1 [.int .i64 (0 : Int), .string (⟨#[]⟩ : ByteArray), .int .i64 (0 : Int), .int .i64 (0 : Int)] 172] w') _ ⟨_, G30, hO116, (GH.le.refl _), hE.keep ⟨rfl, rfl, rfl, rfl, rfl, rfl, trivial⟩, hI⟩ ?_
    clear hE hI hO116; rintro m190 a w ⟨s114, G112, hO116, hg118, hE, hI⟩; rcases m190 with _ | m190
    · cases hO116
    obtain ⟨stp189, hF, hO116⟩ := while_step hO116; unfold ref05_one.b1 at hF; refine c_seq ?_; refine c_seq ?_; obtain ⟨m215, hF, hR217⟩ := bd hF
    refine c_cut (fun a' w' => ∃ (G213 : GH), G112.le G213 ∧ Env a' 166 [(0, .string p0), (1, .int .i64 p1), (4, .pointer (some ⟨b1, 0, none⟩)), (8, .pointer (some ⟨b2, 0, none⟩)), (9, .int .i64 s114), (10, .bool y27), (53, .bool m215)] ∧ Inv w0 G0 [] G213 [.blk b2 [.int .i64 (0 : Int), .string (⟨#[]⟩ : ByteArray), .int .i64 (0 : Int), .int .i64 (0 : Int)] 172, .blk b1 [.int .i64 (0 : Int), .string (⟨#[]⟩ : ByteArray), .int .i64 (0 : Int), .int .i64 (0 : Int)] 172] w') ?_ ?_
    rotate_left
    · clear hE hI; rintro a w ⟨G213, hg216, hE, hI⟩; clear hF; have hF := hR217; clear hR217; refine xT ?_; refine c_if (b := m215) hE rfl (fun hb218 => ?_) (fun hb218 => ?_); rotate_left
      · replace hF := cf hb218 hF; refine c_exit ?_; refine xTe ?_; refine xTe ?_; refine xBh ?_; refine xT ?_; cases hF; obtain rfl := wnxt_brk hO116
        exact ⟨_, G213, rfl, (hg118.trans hg216), hE.keep ⟨rfl, rfl, rfl, rfl, rfl, rfl, trivial⟩, hI⟩
      replace hF := ct hb218 hF; refine c_skip ?_; refine xT ?_; refine c_block ?_; refine c_reg ?_; refine run tt_ok 3 hE rfl fun a hE => ?_; refine c_end ?_; refine xB ?_; refine xT ?_; cases hF
      exact ⟨m190, Nat.lt_succ_self _, _, G213, hO116, (hg118.trans hg216), hE.keep ⟨rfl, rfl, rfl, rfl, rfl, rfl, trivial⟩, hI⟩
    refine c_reg ?_; refine run tt_ok 5 hE rfl fun a hE => ?_; rcases bool_or (decide (s114 < (p0.size : Int))) with hb219 | hb219; rotate_left
    · replace hF := cf hb219 hF; have hE := hE.tr (t := 39) rfl hb219; clear hb219; refine run tt_ok 14 hE rfl fun a hE => ?_; refine c_end ?_; refine xT ?_; cases hF
      exact ⟨G112, (GH.le.refl _), hE.keep ⟨rfl, rfl, rfl, rfl, rfl, rfl, rfl, trivial⟩, hI⟩
    replace hF := ct hb219 hF; have hE := hE.tr (t := 39) rfl hb219; clear hb219; refine run tt_ok 2 hE rfl fun a hE => ?_; obtain ⟨z220, hz221, hF⟩ := bd hF
    refine s_rt hI hE rfl (f_sidx tt_ok rfl rfl rfl hz221) rfl fun a hE => ?_; obtain ⟨y222, hy223, hF⟩ := bd hF; refine s_call0 cl_130 hI hE rfl rfl ((ref05_digit.ok k) _ _ hy223 _ _  hI.pass0 ) rfl ?_; clear hE hI
    rintro a w _ G225 _ ⟨rfl, rfl⟩ hg224 hI hE; refine run tt_ok 1 hE rfl fun a hE => ?_; rcases bool_or y222 with hb226 | hb226
    · replace hF := ct hb226 hF; have hE := hE.tr (t := 44) rfl hb226; clear hb226; refine run tt_ok 9 hE rfl fun a hE => ?_; refine c_end ?_; refine xT ?_; cases hF
      exact ⟨G225, hg224, hE.keep ⟨rfl, rfl, rfl, rfl, rfl, rfl, rfl, trivial⟩, hI⟩
    replace hF := cf hb226 hF; have hE := hE.tr (t := 44) rfl hb226; clear hb226; refine run tt_ok 2 hE rfl fun a hE => ?_; rcases bool_or y27 with hb227 | hb227; rotate_left
    · replace hF := cf hb227 hF; have hE := hE.tr (t := 46) rfl hb227; clear hb227; refine run tt_ok 7 hE rfl fun a hE => ?_; refine c_end ?_; refine xT ?_; cases hF
      exact ⟨G225, hg224, hE.keep ⟨rfl, rfl, rfl, rfl, rfl, rfl, rfl, trivial⟩, hI⟩
    replace hF := ct hb227 hF; have hE := hE.tr (t := 46) rfl hb227; clear hb227; refine run tt_ok 2 hE rfl fun a hE => ?_; obtain ⟨z228, hz229, hF⟩ := bd hF
    refine s_rt hI hE rfl (f_sidx tt_ok rfl rfl rfl hz229) rfl fun a hE => ?_; obtain ⟨y230, hy231, hF⟩ := bd hF; refine s_call0 cl_129 hI hE rfl rfl ((ref05_letter.ok k) _ _ hy231 _ _  hI.pass0 ) rfl ?_; clear hE hI
    rintro a w _ G233 _ ⟨rfl, rfl⟩ hg232 hI hE; refine run tt_ok 3 hE rfl fun a hE => ?_; refine c_end ?_; refine xT ?_; cases hF; exact ⟨G233, (hg224.trans hg232), hE.keep ⟨rfl, rfl, rfl, rfl, rfl, rfl, rfl, trivial⟩, hI⟩
  clear hE hI hO116; rintro a w ⟨s119, G120, rfl, hg122, hE, hI⟩; have hF := lrk_go hK117; clear hK117; refine xT ?_; refine c_seq ?_; refine c_reg ?_; refine run tt_ok 3 hE rfl fun a hE => ?_
  obtain ⟨z124, hz125, hF⟩ := bd hF; refine s_rt hI hE rfl (f_scut tt_ok rfl rfl rfl rfl hz125) rfl fun a hE => ?_; refine run tt_ok 1 hE rfl fun a hE => ?_
  refine s_rt hI hE rfl (f_build tt_ok rfl z_172 rfl rfl) rfl fun a hE => ?_; refine s_alloc hI hE rfl z_172 rfl rfl fun a w b126 hE hI => ?_
  refine s_storeB tt_ok 0 hI hE rfl rfl rfl rfl rfl rfl rfl rfl rfl rfl fun a w hE hI => ?_; refine c_end ?_; refine xT ?_; refine c_seq ?_; refine c_seq ?_; refine c_reg ?_; refine run tt_ok 1 hE rfl fun a hE => ?_
  refine c_end ?_; refine xT ?_; refine c_if (b := y27) hE rfl (fun hb188 => ?_) (fun hb188 => ?_)
  · replace hF := ct hb188 hF; refine c_seq ?_; refine c_seq ?_; refine c_reg ?_; refine run tt_ok 4 hE rfl fun a hE => ?_; refine c_end ?_; refine xT ?_
    refine c_if (b := decide ((30 : Int) < (w64 (s119 - p1)))) hE rfl (fun hb129 => ?_) (fun hb129 => ?_)
    · replace hF := ct hb129 hF; refine c_seq ?_; refine c_reg ?_; refine s_rt hI hE rfl (f_loadB tt_ok 1 rfl rfl rfl rfl) rfl fun a hE => ?_; refine run tt_ok 1 hE rfl fun a hE => ?_
      refine s_storeB tt_ok 2 hI hE rfl rfl rfl rfl rfl rfl rfl rfl rfl rfl fun a w hE hI => ?_; refine run tt_ok 3 hE rfl fun a hE => ?_; refine c_end ?_; refine xT ?_; refine c_ret ?_; refine xTr ?_; refine xTr ?_
      refine xTr ?_; cases hF; refine r_retC tt_ok hE hI (.cell 2 rfl rfl rfl rfl (.tmp rfl (.tmp rfl (.tmp rfl .nil)))) rfl ⟨_, _, _, rfl, hI.nil, rfl, _, rfl, (TToken.inv.2 rfl)⟩
    replace hF := cf hb129 hF; refine c_skip ?_; refine xT ?_; refine c_seq ?_; refine c_reg ?_; refine s_rt hI hE rfl (f_loadB tt_ok 0 rfl rfl rfl rfl) rfl fun a hE => ?_; refine run tt_ok 1 hE rfl fun a hE => ?_
    refine s_storeB tt_ok 2 hI hE rfl rfl rfl rfl rfl rfl rfl rfl rfl rfl fun a w hE hI => ?_; refine run tt_ok 3 hE rfl fun a hE => ?_; refine c_end ?_; refine xT ?_; refine c_ret ?_; refine xTr ?_; refine xTr ?_; cases hF
    refine r_retC tt_ok hE hI (.cell 2 rfl rfl rfl rfl (.tmp rfl (.tmp rfl (.tmp rfl .nil)))) rfl ⟨_, _, _, rfl, hI.nil, rfl, _, rfl, (TToken.inv.2 rfl)⟩
  replace hF := cf hb188 hF; refine c_skip ?_; refine xT ?_; refine c_seq ?_; refine c_seq ?_; refine c_reg ?_; refine run tt_ok 4 hE rfl fun a hE => ?_; refine c_end ?_; refine xT ?_
  refine c_if (b := decide ((18 : Int) < (w64 (s119 - p1)))) hE rfl (fun hb187 => ?_) (fun hb187 => ?_)
  · replace hF := ct hb187 hF; refine c_seq ?_; refine c_reg ?_; refine s_rt hI hE rfl (f_loadB tt_ok 1 rfl rfl rfl rfl) rfl fun a hE => ?_; refine run tt_ok 1 hE rfl fun a hE => ?_
    refine s_storeB tt_ok 2 hI hE rfl rfl rfl rfl rfl rfl rfl rfl rfl rfl fun a w hE hI => ?_; refine run tt_ok 3 hE rfl fun a hE => ?_; refine c_end ?_; refine xT ?_; refine c_ret ?_; refine xTr ?_; refine xTr ?_; cases hF
    refine r_retC tt_ok hE hI (.cell 2 rfl rfl rfl rfl (.tmp rfl (.tmp rfl (.tmp rfl .nil)))) rfl ⟨_, _, _, rfl, hI.nil, rfl, _, rfl, (TToken.inv.2 rfl)⟩
  replace hF := cf hb187 hF; refine c_skip ?_; refine xT ?_; refine c_seq ?_; refine c_reg ?_; refine run tt_ok 1 hE rfl fun a hE => ?_
  refine s_storeB tt_ok 0 hI hE rfl rfl rfl rfl rfl rfl rfl rfl rfl rfl fun a w hE hI => ?_; refine c_end ?_; refine xT ?_; refine c_seq ?_; refine c_seq ?_; refine c_reg ?_; refine run tt_ok 2 hE rfl fun a hE => ?_
  refine c_end ?_; refine xT ?_; obtain ⟨o161, hO162, hK163⟩ := bd hF; clear hF
  refine c_cut (fun a' w' => ∃ (s165 : Int × Int) (G166 : GH), o161 = .go s165 ∧ G120.le G166 ∧ Env a' 166 [(4, .pointer (some ⟨b1, 0, none⟩)), (9, .int .i64 s119), (11, .pointer (some ⟨b126, 0, none⟩))] ∧ Inv w0 G0 [] G166 [.blk b126 [.int .i64 (2 : Int), .string z124, .int .i64 s165.2, .int .i64 p1] 172, .blk b1 [.int .i64 (0 : Int), .string (⟨#[]⟩ : ByteArray), .int .i64 (0 : Int), .int .i64 (0 : Int)] 172] w') ?_ ?_
  rotate_left
  · clear hE hI hO162; rintro a w ⟨s165, G166, rfl, hg169, hE, hI⟩; have hF := lrk_go hK163; clear hK163; refine xT ?_; refine c_seq ?_; refine c_reg ?_
    refine s_rt hI hE rfl (f_loadB tt_ok 0 rfl rfl rfl rfl) rfl fun a hE => ?_; refine run tt_ok 1 hE rfl fun a hE => ?_; refine s_storeB tt_ok 1 hI hE rfl rfl rfl rfl rfl rfl rfl rfl rfl rfl fun a w hE hI => ?_
    refine run tt_ok 3 hE rfl fun a hE => ?_; refine c_end ?_; refine xT ?_; refine c_ret ?_; refine xTr ?_; cases hF
    refine r_retC tt_ok hE hI (.cell 1 rfl rfl rfl rfl (.tmp rfl (.tmp rfl (.tmp rfl .nil)))) rfl ⟨_, _, _, rfl, hI.nil, rfl, _, rfl, (TToken.inv.2 rfl)⟩
  refine c_block ?_
  refine wp_loop_ghost (fun n' a' w' => ∃ (s160 : Int × Int) (G157 : GH), whileL (ref05_one.b0 k s119 p0) n' s160 = some o161 ∧ G120.le G157 ∧ Env a' 166 [(0, .string p0), (4, .pointer (some ⟨b1, 0, none⟩)), (9, .int .i64 s119), (11, .pointer (some ⟨b126, 0, none⟩)), (12, .int .i64 s160.1)] ∧ Inv w0 G0 [] G157 [.blk b126 [.int .i64 (2 : Int), .string z124, .int .i64 s160.2, .int .i64 p1] 172, .blk b1 [.int .i64 (0 : Int), .string (⟨#[]⟩ : ByteArray), .int .i64 (0 : Int), .int .i64 (0 : Int)] 172] w') _ ⟨_, G120, hO162, (GH.le.refl _), hE.keep ⟨rfl, rfl, rfl, rfl, rfl, trivial⟩, (hI.pick [0, 2] (by decide) rfl)⟩ ?_
  clear hE hI hO162; rintro m172 a w ⟨s160, G157, hO162, hg164, hE, hI⟩; rcases m172 with _ | m172
  · cases hO162
  obtain ⟨stp171, hF, hO162⟩ := while_step hO162; unfold ref05_one.b0 at hF; refine c_seq ?_; refine c_seq ?_; refine c_reg ?_; refine run tt_ok 3 hE rfl fun a hE => ?_; refine c_end ?_; refine xT ?_
  refine c_if (b := decide (s160.1 < s119)) hE rfl (fun hb186 => ?_) (fun hb186 => ?_); rotate_left
  · replace hF := cf hb186 hF; refine c_exit ?_; refine xTe ?_; refine xTe ?_; refine xBh ?_; refine xT ?_; cases hF; obtain rfl := wnxt_brk hO162; exact ⟨_, G157, rfl, hg164, hE.keep ⟨rfl, rfl, rfl, trivial⟩, hI⟩
  replace hF := ct hb186 hF; refine c_skip ?_; refine xT ?_; refine c_seq ?_; refine c_block ?_
  refine c_mix [10] (.step 0 0 (.step 1 1 (.step 2 0 (.step 3 0 (.step 4 0 (.step 5 0 (.step 6 0 (.step 7 0 (.step 8 0 (.step 9 0 (.step 10 3 .nil))))))))))) [.blk b126 [.int .i64 (2 : Int), .string z124, .int .i64 s160.2, .int .i64 p1] 172] mixed (by kernel_rfl) hI ?_; clear hI; intro w hI
  have hS := hI.sw (Ls := [.blk b126 [.int .i64 (2 : Int), .string z124, .int .i64 s160.2, .int .i64 p1] 172]) [0] (by decide) rfl (GH.le.refl _); refine mix_run tt_ok 1 hE rfl fun a hE => ?_
  refine d_ld hS hE rfl rfl (RT.sw fun _ => (f_loadB tt_ok 0 rfl rfl rfl rfl)) rfl fun a hE => ?_; refine mix_run tt_ok 3 hE rfl fun a hE => ?_; obtain ⟨z184, hz185, hF⟩ := bd hF
  refine d_rt hE rfl rfl (f_sidx tt_ok rfl rfl rfl hz185) rfl fun a hE => ?_; refine mix_run tt_ok 4 hE rfl fun a hE => ?_; refine d_last rfl ?_
  refine s_storeB tt_ok 0 hI hE rfl rfl rfl rfl rfl rfl rfl rfl rfl rfl fun a w hE hI => ?_; refine d_nextl ?_; refine d_end ?_; refine xB ?_; refine xT ?_; refine c_reg ?_; refine run tt_ok 3 hE rfl fun a hE => ?_
  refine c_end ?_; refine xT ?_; cases hF; exact ⟨m172, Nat.lt_succ_self _, _, G157, hO162, hg164, hE.keep ⟨rfl, rfl, rfl, rfl, rfl, trivial⟩, hI⟩

theorem cl_110 : Callable Try.prog 110 := ⟨_, Try.func110, by kernel_rfl, by kernel_rfl⟩

def ref05_Scan.C (s : ByteArray → Option ((List TToken) × Int × Int)) : Prop := ∀ (p0 : ByteArray) (r : (List TToken) × Int × Int), s p0 = some r → ∀ (w0 : World) (G0 : GH) , Inv w0 G0 [] G0 [] w0 → Calls Try.prog 110 #[.string p0] w0 (Ret w0 G0 [] fun G' L' v => L' = [] ∧ ∃ A0 c0, v = .tuple ⟨[.slice A0 r.1.length c0, .int .i64 r.2.1, .int .i64 r.2.2]⟩ ∧ Sl G' A0 c0 4 (r.1.map TToken.d))

theorem ref05_Scan.ok (k : Nat) : ref05_Scan.C (ref05_Scan k) := by
  intro p0 r hF w0 G0  hI 
  unfold ref05_Scan at hF
  refine calls_of_wp Try.func110 rfl ?_
  have hE : Env _ 86 [(0, .string p0)] := Env.start ⟨[.string p0]⟩ 85
  refine c_seq ?_; refine c_reg ?_; refine run tt_ok 3 hE rfl fun a hE => ?_; refine c_end ?_; refine xT ?_; refine c_seq ?_; refine c_seq ?_; refine c_reg ?_; refine run tt_ok 3 hE rfl fun a hE => ?_; refine c_end ?_
  refine xT ?_; refine c_if (b := decide ((20000 : Int) < (p0.size : Int))) hE rfl (fun hb554 => ?_) (fun hb554 => ?_)
  · replace hF := ct hb554 hF; refine c_seq ?_; refine c_reg ?_; refine run tt_ok 3 hE rfl fun a hE => ?_; refine c_end ?_; refine xT ?_; refine c_ret ?_; refine xTr ?_; cases hF
    refine r_ret (v := _) hE rfl ⟨_, _, _, rfl, hI.nil, rfl, none, 0, rfl, (Sl.nil _ _ _ _ (Nat.zero_le _))⟩
  replace hF := cf hb554 hF; refine c_skip ?_; refine xT ?_; refine c_seq ?_; refine c_reg ?_; refine run tt_ok 1 hE rfl fun a hE => ?_; refine c_end ?_; refine xT ?_; refine c_seq ?_; refine c_reg ?_
  refine run tt_ok 1 hE rfl fun a hE => ?_; refine c_end ?_; refine xT ?_; refine c_seq ?_; have hI := hI.nilrow 172 4; have hR126 : RL G0 4 (([] : List TToken).map TToken.d) [] := RL.nil
  obtain ⟨o397, hO398, hK399⟩ := bd hF; clear hF
  refine c_cut (fun a' w' => ∃ (s401 : (List TToken) × Int) (G402 : GH) (A404 : Option Addr) (c405 : Nat) (cs406 : List Value), o397 = .go s401 ∧ G0.le G402 ∧ Env a' 86 [(0, .string p0), (5, .slice A404 s401.1.length c405)] ∧ Inv w0 G0 [] G402 [.row (.slice A404 s401.1.length c405) 172 4 s401.1.length cs406] w' ∧ RL G402 4 (s401.1.map TToken.d) cs406) ?_ ?_
  rotate_left
  · clear hE hI hO398; rintro a w ⟨s401, G402, A404, c405, cs406, rfl, hg409, hE, hI, hR407⟩; have hF := lrk_go hK399; clear hK399; refine xT ?_; refine c_seq ?_; refine c_seq ?_; refine c_reg ?_
    refine run tt_ok 3 hE rfl fun a hE => ?_; refine c_end ?_; refine xT ?_; refine c_if (b := decide ((6000 : Int) ≤ (s401.1.length : Int))) hE rfl (fun hb425 => ?_) (fun hb425 => ?_)
    · replace hF := ct hb425 hF; refine c_seq ?_; refine c_reg ?_; refine run tt_ok 5 hE rfl fun a hE => ?_; refine c_end ?_; refine xT ?_; refine c_ret ?_; refine xTr ?_; cases hF
      refine r_ret (v := _) hE rfl ⟨_, _, _, rfl, hI.nil, rfl, none, 0, rfl, (Sl.nil _ _ _ _ (Nat.zero_le _))⟩
    replace hF := cf hb425 hF; refine c_skip ?_; refine xT ?_; refine c_seq ?_; refine c_reg ?_; refine run tt_ok 3 hE rfl fun a hE => ?_; refine s_rt hI hE rfl (f_build tt_ok rfl z_172 rfl rfl) rfl fun a hE => ?_
    refine s_bsl ai_151 hI hE rfl rfl rfl rfl rfl fun a w b414 hE hI => ?_
    have hR416 : RL G402 4 ([(TToken.mk (0 : Int) (⟨#[]⟩ : ByteArray) (0 : Int) (p0.size : Int))].map TToken.d) [.int .i64 (0 : Int), .string (⟨#[]⟩ : ByteArray), .int .i64 (0 : Int), .int .i64 (p0.size : Int)] := (RL.cons (TToken.inv.2 rfl) rfl RL.nil)
    obtain ⟨_, hb417, hF⟩ := bd hF
    refine s_appO (f := TToken.d) (xs := s401.1) (ys := [(TToken.mk (0 : Int) (⟨#[]⟩ : ByteArray) (0 : Int) (p0.size : Int))]) ai_151 1 0 hI hE rfl rfl rfl hR416 rfl rfl (lim_le hb417) rfl fun a w A418 c419 hE hI => ?_
    have hR421 := RL.appm hR407 hR416; refine run tt_ok 3 hE rfl fun a hE => ?_; refine c_end ?_; refine xT ?_
    obtain ⟨G422, hg423, hI, h424⟩ := (hI.front 1).giveR (xs := (s401.1 ++ [(TToken.mk (0 : Int) (⟨#[]⟩ : ByteArray) (0 : Int) (p0.size : Int))]).map TToken.d) (by simp) hR421; refine c_ret ?_; cases hF
    refine r_ret (v := _) hE rfl ⟨_, _, _, rfl, hI.nil, rfl, A418, c419, rfl, h424⟩
  refine c_block ?_
  refine wp_loop_ghost (fun n' a' w' => ∃ (s396 : (List TToken) × Int) (G389 : GH) (A391 : Option Addr) (c392 : Nat) (cs393 : List Value), whileL (ref05_Scan.b0 k p0) n' s396 = some o397 ∧ G0.le G389 ∧ Env a' 86 [(0, .string p0), (5, .slice A391 s396.1.length c392), (6, .int .i64 s396.2)] ∧ Inv w0 G0 [] G389 [.row (.slice A391 s396.1.length c392) 172 4 s396.1.length cs393] w' ∧ RL G389 4 (s396.1.map TToken.d) cs393) _ ⟨_, G0, none, 0, [], hO398, (GH.le.refl _), hE.keep ⟨rfl, rfl, rfl, trivial⟩, hI, hR126⟩ ?_
  clear hE hI hO398; rintro m427 a w ⟨s396, G389, A391, c392, cs393, hO398, hg400, hE, hI, hR394⟩; rcases m427 with _ | m427
  · cases hO398
  obtain ⟨stp426, hF, hO398⟩ := while_step hO398; unfold ref05_Scan.b0 at hF; refine c_seq ?_; refine c_seq ?_; refine c_reg ?_; refine run tt_ok 4 hE rfl fun a hE => ?_; refine c_end ?_; refine xT ?_
  refine c_if (b := decide (s396.2 < (p0.size : Int))) hE rfl (fun hb553 => ?_) (fun hb553 => ?_); rotate_left
  · replace hF := cf hb553 hF; refine c_exit ?_; refine xTe ?_; refine xTe ?_; refine xBh ?_; refine xT ?_; cases hF; obtain rfl := wnxt_brk hO398
    exact ⟨_, G389, A391, c392, cs393, rfl, hg400, hE.keep ⟨rfl, rfl, trivial⟩, hI, hR394⟩
  replace hF := ct hb553 hF; refine c_skip ?_; refine xT ?_; refine c_block ?_; refine c_seq ?_; refine c_seq ?_; refine c_reg ?_; refine run tt_ok 2 hE rfl fun a hE => ?_; obtain ⟨z437, hz438, hF⟩ := bd hF
  refine s_rt hI hE rfl (f_sidx tt_ok rfl rfl rfl hz438) rfl fun a hE => ?_; obtain ⟨y439, hy440, hF⟩ := bd hF; refine s_call0 cl_124 hI hE rfl rfl ((ref05_blank.ok k) _ _ hy440 _ _  hI.pass0 ) rfl ?_; clear hE hI
  rintro a w _ G442 _ ⟨rfl, rfl⟩ hg441 hI hE; refine c_end ?_; refine xT ?_; refine c_if (b := y439) hE rfl (fun hb552 => ?_) (fun hb552 => ?_)
  · replace hF := ct hb552 hF; refine c_seq ?_; refine c_reg ?_; refine run tt_ok 3 hE rfl fun a hE => ?_; refine c_end ?_; refine xT ?_; refine c_exit ?_; refine xTe ?_; refine xBh ?_; refine xT ?_; cases hF
    exact ⟨m427, Nat.lt_succ_self _, _, G442, A391, c392, cs393, hO398, (hg400.trans hg441), hE.keep ⟨rfl, rfl, rfl, trivial⟩, hI, (hR394.mono hg441)⟩
  replace hF := cf hb552 hF; refine c_skip ?_; refine xT ?_; refine c_seq ?_; refine c_seq ?_; obtain ⟨m452, hF, hR454⟩ := bd hF
  refine c_cut (fun a' w' => ∃ (G450 : GH), G442.le G450 ∧ Env a' 86 [(0, .string p0), (5, .slice A391 s396.1.length c392), (6, .int .i64 s396.2), (41, .bool m452)] ∧ Inv w0 G0 [] G450 [.row (.slice A391 s396.1.length c392) 172 4 s396.1.length cs393] w') ?_ ?_
  · refine c_reg ?_; refine run tt_ok 2 hE rfl fun a hE => ?_; obtain ⟨z546, hz547, hF⟩ := bd hF; refine s_rt hI hE rfl (f_sidx tt_ok rfl rfl rfl hz547) rfl fun a hE => ?_; refine run tt_ok 2 hE rfl fun a hE => ?_
    rcases bool_or (decide (z546 = (45 : Int))) with hb548 | hb548; rotate_left
    · replace hF := cf hb548 hF; have hE := hE.tr (t := 28) rfl hb548; clear hb548; refine run tt_ok 13 hE rfl fun a hE => ?_; refine c_end ?_; refine xT ?_; cases hF
      exact ⟨G442, (GH.le.refl _), hE.keep ⟨rfl, rfl, rfl, rfl, trivial⟩, hI⟩
    replace hF := ct hb548 hF; have hE := hE.tr (t := 28) rfl hb548; clear hb548; refine run tt_ok 7 hE rfl fun a hE => ?_; rcases bool_or (decide ((w64 (s396.2 + (1 : Int))) < (p0.size : Int))) with hb549 | hb549
    rotate_left
    · replace hF := cf hb549 hF; have hE := hE.tr (t := 35) rfl hb549; clear hb549; refine run tt_ok 6 hE rfl fun a hE => ?_; refine c_end ?_; refine xT ?_; cases hF
      exact ⟨G442, (GH.le.refl _), hE.keep ⟨rfl, rfl, rfl, rfl, trivial⟩, hI⟩
    replace hF := ct hb549 hF; have hE := hE.tr (t := 35) rfl hb549; clear hb549; refine run tt_ok 3 hE rfl fun a hE => ?_; obtain ⟨z550, hz551, hF⟩ := bd hF
    refine s_rt hI hE rfl (f_sidx tt_ok rfl rfl rfl hz551) rfl fun a hE => ?_; refine run tt_ok 2 hE rfl fun a hE => ?_; refine c_end ?_; refine xT ?_; cases hF
    exact ⟨G442, (GH.le.refl _), hE.keep ⟨rfl, rfl, rfl, rfl, trivial⟩, hI⟩
  clear hE hI; rintro a w ⟨G450, hg453, hE, hI⟩; clear hF; have hF := hR454; clear hR454; refine xT ?_; refine c_if (b := m452) hE rfl (fun hb545 => ?_) (fun hb545 => ?_); rotate_left
  · replace hF := cf hb545 hF; refine c_skip ?_; refine xT ?_; refine c_seq ?_; refine c_reg ?_; refine run tt_ok 2 hE rfl fun a hE => ?_; obtain ⟨y524, hy525, hF⟩ := bd hF
    refine s_call0 cl_125 hI hE rfl rfl ((ref05_one.ok k) _ _ _ hy525 _ _  hI.pass0 ) rfl ?_; clear hE hI; rintro a w _ G527 _ ⟨rfl, cshR528, rfl, hR528⟩ hg526 hI hE; obtain rfl := TToken.inv.1 hR528
    refine run tt_ok 5 hE rfl fun a hE => ?_; refine s_alloc hI hE rfl z_172 rfl rfl fun a w b529 hE hI => ?_; refine s_storeB tt_ok 0 hI hE rfl rfl rfl rfl rfl rfl rfl rfl rfl rfl fun a w hE hI => ?_
    refine run tt_ok 3 hE rfl fun a hE => ?_; refine c_end ?_; refine xT ?_; refine c_seq ?_; refine c_seq ?_; refine c_reg ?_; refine run tt_ok 2 hE rfl fun a hE => ?_; refine c_end ?_; refine xT ?_
    refine c_if (b := !decide (y524.2.2.2 = (0 : Int))) hE rfl (fun hb544 => ?_) (fun hb544 => ?_)
    · replace hF := ct hb544 hF; refine c_seq ?_; refine c_reg ?_; refine run tt_ok 5 hE rfl fun a hE => ?_; refine c_end ?_; refine xT ?_; refine c_ret ?_; refine xTr ?_; refine xBr ?_; refine xTr ?_; refine xBr ?_
      refine xTr ?_; refine xTr ?_; cases hF; obtain rfl := wnxt_ret hO398; have hF := lrk_ret hK399; cases hF; refine r_ret (v := _) hE rfl ⟨_, _, _, rfl, hI.nil, rfl, none, 0, rfl, (Sl.nil _ _ _ _ (Nat.zero_le _))⟩
    replace hF := cf hb544 hF; refine c_skip ?_; refine xT ?_; refine c_seq ?_; refine c_seq ?_; refine c_reg ?_; refine run tt_ok 3 hE rfl fun a hE => ?_; refine c_end ?_; refine xT ?_
    refine c_if (b := decide ((6000 : Int) ≤ (s396.1.length : Int))) hE rfl (fun hb543 => ?_) (fun hb543 => ?_)
    · replace hF := ct hb543 hF; refine c_seq ?_; refine c_reg ?_; refine run tt_ok 4 hE rfl fun a hE => ?_; refine c_end ?_; refine xT ?_; refine c_ret ?_; refine xTr ?_; refine xBr ?_; refine xTr ?_; refine xBr ?_
      refine xTr ?_; refine xTr ?_; cases hF; obtain rfl := wnxt_ret hO398; have hF := lrk_ret hK399; cases hF; refine r_ret (v := _) hE rfl ⟨_, _, _, rfl, hI.nil, rfl, none, 0, rfl, (Sl.nil _ _ _ _ (Nat.zero_le _))⟩
    replace hF := cf hb543 hF; refine c_skip ?_; refine xT ?_; refine c_seq ?_; refine c_reg ?_; refine run tt_ok 1 hE rfl fun a hE => ?_; refine s_rt hI hE rfl (f_loadB tt_ok 0 rfl rfl rfl rfl) rfl fun a hE => ?_
    refine s_bsl ai_151 hI hE rfl rfl rfl rfl rfl fun a w b535 hE hI => ?_
    have hR537 : RL G527 4 ([y524.1].map TToken.d) [.int .i64 y524.1.Kind, .string y524.1.Text, .int .i64 y524.1.N, .int .i64 y524.1.At] := (RL.cons (TToken.inv.2 rfl) rfl RL.nil); obtain ⟨_, hb538, hF⟩ := bd hF
    refine s_appO (f := TToken.d) (xs := s396.1) (ys := [y524.1]) ai_151 2 0 hI hE rfl rfl rfl hR537 rfl rfl (lim_le hb538) rfl fun a w A539 c540 hE hI => ?_
    have hR542 := RL.appm (hR394.mono ((hg441.trans hg453).trans hg526)) hR537; refine run tt_ok 1 hE rfl fun a hE => ?_; refine c_end ?_; refine xT ?_; refine c_reg ?_; refine run tt_ok 2 hE rfl fun a hE => ?_
    refine c_end ?_; refine xB ?_; refine xT ?_; cases hF
    exact ⟨m427, Nat.lt_succ_self _, _, G527, A539, c540, (cs393 ++ [.int .i64 y524.1.Kind, .string y524.1.Text, .int .i64 y524.1.N, .int .i64 y524.1.At]), hO398, (((hg400.trans hg441).trans hg453).trans hg526), hE.keep ⟨rfl, rfl, rfl, trivial⟩, (hI.dropN 2 rfl), hR542⟩
  replace hF := ct hb545 hF; refine c_seq ?_; obtain ⟨o491, hO492, hK493⟩ := bd hF; clear hF
  refine c_cut (fun a' w' => ∃ (s495 : Int) (G496 : GH), o491 = .go s495 ∧ G450.le G496 ∧ Env a' 86 [(0, .string p0), (5, .slice A391 s396.1.length c392), (6, .int .i64 s495)] ∧ Inv w0 G0 [] G496 [.row (.slice A391 s396.1.length c392) 172 4 s396.1.length cs393] w') ?_ ?_
  rotate_left
  · clear hE hI hO492; rintro a w ⟨s495, G496, rfl, hg498, hE, hI⟩; have hF := lrk_go hK493; clear hK493; refine xT ?_; refine c_exit ?_; refine xTe ?_; refine xBh ?_; refine xT ?_; cases hF
    exact ⟨m427, Nat.lt_succ_self _, _, G496, A391, c392, cs393, hO398, (((hg400.trans hg441).trans hg453).trans hg498), hE.keep ⟨rfl, rfl, rfl, trivial⟩, hI, (hR394.mono ((hg441.trans hg453).trans hg498))⟩
  refine c_block ?_
  refine wp_loop_ghost (fun n' a' w' => ∃ (s490 : Int) (G488 : GH), whileL (ref05_Scan.b1 k p0) n' s490 = some o491 ∧ G450.le G488 ∧ Env a' 86 [(0, .string p0), (5, .slice A391 s396.1.length c392), (6, .int .i64 s490)] ∧ Inv w0 G0 [] G488 [.row (.slice A391 s396.1.length c392) 172 4 s396.1.length cs393] w') _ ⟨_, G450, hO492, (GH.le.refl _), hE.keep ⟨rfl, rfl, rfl, trivial⟩, hI⟩ ?_
  clear hE hI hO492; rintro m500 a w ⟨s490, G488, hO492, hg494, hE, hI⟩; rcases m500 with _ | m500
  · cases hO492
  obtain ⟨stp499, hF, hO492⟩ := while_step hO492; unfold ref05_Scan.b1 at hF; refine c_seq ?_; refine c_seq ?_; obtain ⟨m513, hF, hR515⟩ := bd hF
  refine c_cut (fun a' w' => ∃ (G511 : GH), G488.le G511 ∧ Env a' 86 [(0, .string p0), (5, .slice A391 s396.1.length c392), (6, .int .i64 s490), (51, .bool m513)] ∧ Inv w0 G0 [] G511 [.row (.slice A391 s396.1.length c392) 172 4 s396.1.length cs393] w') ?_ ?_
  rotate_left
  · clear hE hI; rintro a w ⟨G511, hg514, hE, hI⟩; clear hF; have hF := hR515; clear hR515; refine xT ?_; refine c_if (b := m513) hE rfl (fun hb516 => ?_) (fun hb516 => ?_); rotate_left
    · replace hF := cf hb516 hF; refine c_exit ?_; refine xTe ?_; refine xTe ?_; refine xBh ?_; refine xT ?_; cases hF; obtain rfl := wnxt_brk hO492
      exact ⟨_, G511, rfl, (hg494.trans hg514), hE.keep ⟨rfl, rfl, rfl, trivial⟩, hI⟩
    replace hF := ct hb516 hF; refine c_skip ?_; refine xT ?_; refine c_block ?_; refine c_reg ?_; refine run tt_ok 3 hE rfl fun a hE => ?_; refine c_end ?_; refine xB ?_; refine xT ?_; cases hF
    exact ⟨m500, Nat.lt_succ_self _, _, G511, hO492, (hg494.trans hg514), hE.keep ⟨rfl, rfl, rfl, trivial⟩, hI⟩
  refine c_reg ?_; refine run tt_ok 5 hE rfl fun a hE => ?_; rcases bool_or (decide (s490 < (p0.size : Int))) with hb517 | hb517; rotate_left
  · replace hF := cf hb517 hF; have hE := hE.tr (t := 46) rfl hb517; clear hb517; refine run tt_ok 5 hE rfl fun a hE => ?_; refine c_end ?_; refine xT ?_; cases hF
    exact ⟨G488, (GH.le.refl _), hE.keep ⟨rfl, rfl, rfl, rfl, trivial⟩, hI⟩
  replace hF := ct hb517 hF; have hE := hE.tr (t := 46) rfl hb517; clear hb517; refine run tt_ok 2 hE rfl fun a hE => ?_; obtain ⟨z518, hz519, hF⟩ := bd hF
  refine s_rt hI hE rfl (f_sidx tt_ok rfl rfl rfl hz519) rfl fun a hE => ?_; refine run tt_ok 2 hE rfl fun a hE => ?_; refine c_end ?_; refine xT ?_; cases hF
  exact ⟨G488, (GH.le.refl _), hE.keep ⟨rfl, rfl, rfl, rfl, trivial⟩, hI⟩

theorem cl_99 : Callable Try.prog 99 := ⟨_, Try.func99, by kernel_rfl, by kernel_rfl⟩

def ref06_New.C (s : ByteArray → Int → Option Tref06_P) : Prop := ∀ (p0 : ByteArray) (p1 : Int) (r : Tref06_P), s p0 p1 = some r → ∀ (w0 : World) (G0 : GH) , Inv w0 G0 [] G0 [] w0 → Calls Try.prog 99 #[.string p0, .int .i64 p1] w0 (Ret w0 G0 [] fun G' L' v => ∃ b0 A0_0_ c0_0_, L' = [.blk b0 [.slice A0_0_ r.T.length c0_0_, .int .i64 r.I, .int .i64 r.Deep, .int .i64 r.At, .int .i64 r.E] 153] ∧ v = .pointer (some ⟨b0, 0, none⟩) ∧ Sl G' A0_0_ c0_0_ 4 (r.T.map TToken.d))

theorem ref06_New.ok (k : Nat) : ref06_New.C (ref06_New k) := by
  intro p0 p1 r hF w0 G0  hI 
  unfold ref06_New at hF
  refine calls_of_wp Try.func99 rfl ?_
  have hE : Env _ 20 [(0, .string p0), (1, .int .i64 p1)] := Env.start ⟨[.string p0, .int .i64 p1]⟩ 18
  refine c_seq ?_; refine c_reg ?_; refine run tt_ok 1 hE rfl fun a hE => ?_; refine c_end ?_; refine xT ?_; refine c_seq ?_; refine c_reg ?_; refine run tt_ok 1 hE rfl fun a hE => ?_; obtain ⟨y7, hy8, hF⟩ := bd hF
  refine s_call0 cl_110 hI hE rfl rfl ((ref05_Scan.ok k) _ _ hy8 _ _  hI.pass0 ) rfl ?_; clear hE hI; rintro a w _ G10 _ ⟨rfl, A11, c12, rfl, h13⟩ hg9 hI hE; refine run tt_ok 7 hE rfl fun a hE => ?_; refine c_end ?_
  refine xT ?_; refine c_seq ?_; refine c_reg ?_; refine run tt_ok 4 hE rfl fun a hE => ?_; refine s_rt hI hE rfl (f_build tt_ok rfl z_153 rfl rfl) rfl fun a hE => ?_
  refine s_box hI hE rfl rfl rfl rfl fun a w b14 hE hI => ?_; refine run tt_ok 1 hE rfl fun a hE => ?_; refine c_end ?_; refine xT ?_; refine c_ret ?_; cases hF
  refine r_ret (v := _) hE rfl ⟨_, _, _, rfl, hI, b14, A11, c12, rfl, rfl, h13⟩

theorem cl_115 : Callable Try.prog 115 := ⟨_, Try.func115, by kernel_rfl, by kernel_rfl⟩

def ref06_P_is.C (s : (Option Tref06_P) → ByteArray → Option Bool) : Prop := ∀ (p0 : Option Tref06_P) (p1 : ByteArray) (r : Bool), s p0 p1 = some r → ∀ (w0 : World) (G0 : GH) (A1 : Option Addr), Inv w0 G0 [] G0 [] w0 → (Pt G0 A1 153 Tref06_P.d p0) → Calls Try.prog 115 #[.pointer A1, .string p1] w0 (Ret w0 G0 [] fun G' L' v => L' = [] ∧ v = .bool r)

theorem ref06_P_is.ok (k : Nat) : ref06_P_is.C (ref06_P_is k) := by
  intro p0 p1 r hF w0 G0 A1 hI h2
  unfold ref06_P_is at hF
  refine calls_of_wp Try.func115 rfl ?_
  have hE : Env _ 53 [(0, .pointer A1), (1, .string p1)] := Env.start ⟨[.pointer A1, .string p1]⟩ 51
  refine c_seq ?_; refine c_reg ?_; refine run tt_ok 1 hE rfl fun a hE => ?_; refine c_end ?_; refine xT ?_; refine c_seq ?_; obtain ⟨m39, hF, hR41⟩ := bd hF
  refine c_cut (fun a' w' => ∃ (G37 : GH), G0.le G37 ∧ Env a' 53 [(4, .bool m39)] ∧ Inv w0 G0 [] G37 [] w') ?_ ?_; rotate_left
  · clear hE hI; rintro a w ⟨G37, hg40, hE, hI⟩; clear hF; have hF := hR41; clear hR41; refine xT ?_; refine c_ret ?_; cases hF; refine r_ret (v := _) hE rfl ⟨_, _, _, rfl, hI.nil, rfl, rfl⟩
  refine c_draw mixed (by kernel_rfl) hI ?_; clear hI; refine runq tt_ok 1 hE rfl fun a hE => ?_; rcases (h2).cases with ⟨hp44, rfl⟩ | ⟨y42, b43, cs, hp44, rfl, hR45, hA46⟩
  · cases op_n hp44 hF
  replace hF := op_s hp44 hF; obtain ⟨A47, c48, rfl, h49⟩ := Tref06_P.inv.1 hR45; refine runq tt_ok 2 hE rfl fun a hE => ?_; refine q_rt hE rfl (f_loadG tt_ok hA46 4 rfl rfl rfl rfl) rfl fun a hE => ?_
  refine runq tt_ok 2 hE rfl fun a hE => ?_; rcases bool_or (decide (y42.E = (0 : Int))) with hb50 | hb50; rotate_left
  · replace hF := cf hb50 hF; have hE := hE.tr (t := 10) rfl hb50; clear hb50; refine runq tt_ok 43 hE rfl fun a hE => ?_; refine q_end ?_; intro w hI; refine xT ?_; cases hF
    exact ⟨G0, (GH.le.refl _), hE.keep ⟨rfl, trivial⟩, hI⟩
  replace hF := ct hb50 hF; have hE := hE.tr (t := 10) rfl hb50; clear hb50; refine runq tt_ok 3 hE rfl fun a hE => ?_; refine q_rt hE rfl (f_loadG tt_ok hA46 0 rfl rfl rfl rfl) rfl fun a hE => ?_
  refine runq tt_ok 3 hE rfl fun a hE => ?_; refine q_rt hE rfl (f_loadG tt_ok hA46 1 rfl rfl rfl rfl) rfl fun a hE => ?_; obtain ⟨y55, hy56, hF⟩ := bd hF
  obtain ⟨b51, o52, cs, hb57, hR54, hA53⟩ := sl_at h49 (getO_some hy56).1 (getO_some hy56).2; obtain rfl := TToken.inv.1 hR54; refine q_rt hE rfl (f_idx tt_ok hb57 rfl rfl rfl) rfl fun a hE => ?_
  refine runq tt_ok 1 hE rfl fun a hE => ?_; refine q_rt hE rfl (f_loadG tt_ok hA53 0 rfl rfl rfl rfl) rfl fun a hE => ?_; refine runq tt_ok 2 hE rfl fun a hE => ?_
  rcases bool_or (decide (y55.Kind = (1 : Int))) with hb58 | hb58
  · replace hF := ct hb58 hF; have hE := hE.tr (t := 23) rfl hb58; clear hb58; refine runq tt_ok 18 hE rfl fun a hE => ?_; refine q_rt hE rfl (f_loadG tt_ok hA46 0 rfl rfl rfl rfl) rfl fun a hE => ?_
    refine runq tt_ok 3 hE rfl fun a hE => ?_; refine q_rt hE rfl (f_loadG tt_ok hA46 1 rfl rfl rfl rfl) rfl fun a hE => ?_; obtain ⟨b59, o60, cs, hb63, hR62, hA61⟩ := sl_at h49 (getO_some hy56).1 (getO_some hy56).2
    obtain rfl := TToken.inv.1 hR62; refine q_rt hE rfl (f_idx tt_ok hb63 rfl rfl rfl) rfl fun a hE => ?_; refine runq tt_ok 1 hE rfl fun a hE => ?_
    refine q_rt hE rfl (f_loadG tt_ok hA61 1 rfl rfl rfl rfl) rfl fun a hE => ?_; refine runq tt_ok 4 hE rfl fun a hE => ?_; refine q_end ?_; intro w hI; refine xT ?_; cases hF
    exact ⟨G0, (GH.le.refl _), hE.keep ⟨rfl, trivial⟩, hI⟩
  replace hF := cf hb58 hF; have hE := hE.tr (t := 23) rfl hb58; clear hb58; refine runq tt_ok 3 hE rfl fun a hE => ?_; refine q_rt hE rfl (f_loadG tt_ok hA46 0 rfl rfl rfl rfl) rfl fun a hE => ?_
  refine runq tt_ok 3 hE rfl fun a hE => ?_; refine q_rt hE rfl (f_loadG tt_ok hA46 1 rfl rfl rfl rfl) rfl fun a hE => ?_; obtain ⟨b64, o65, cs, hb68, hR67, hA66⟩ := sl_at h49 (getO_some hy56).1 (getO_some hy56).2
  obtain rfl := TToken.inv.1 hR67; refine q_rt hE rfl (f_idx tt_ok hb68 rfl rfl rfl) rfl fun a hE => ?_; refine runq tt_ok 1 hE rfl fun a hE => ?_
  refine q_rt hE rfl (f_loadG tt_ok hA66 0 rfl rfl rfl rfl) rfl fun a hE => ?_; refine runq tt_ok 4 hE rfl fun a hE => ?_; rcases bool_or (decide (y55.Kind = (4 : Int))) with hb69 | hb69; rotate_left
  · replace hF := cf hb69 hF; have hE := hE.tr (t := 38) rfl hb69; clear hb69; refine runq tt_ok 15 hE rfl fun a hE => ?_; refine q_end ?_; intro w hI; refine xT ?_; cases hF
    exact ⟨G0, (GH.le.refl _), hE.keep ⟨rfl, trivial⟩, hI⟩
  replace hF := ct hb69 hF; have hE := hE.tr (t := 38) rfl hb69; clear hb69; refine runq tt_ok 3 hE rfl fun a hE => ?_; refine q_rt hE rfl (f_loadG tt_ok hA46 0 rfl rfl rfl rfl) rfl fun a hE => ?_
  refine runq tt_ok 3 hE rfl fun a hE => ?_; refine q_rt hE rfl (f_loadG tt_ok hA46 1 rfl rfl rfl rfl) rfl fun a hE => ?_; obtain ⟨b70, o71, cs, hb74, hR73, hA72⟩ := sl_at h49 (getO_some hy56).1 (getO_some hy56).2
  obtain rfl := TToken.inv.1 hR73; refine q_rt hE rfl (f_idx tt_ok hb74 rfl rfl rfl) rfl fun a hE => ?_; refine runq tt_ok 1 hE rfl fun a hE => ?_
  refine q_rt hE rfl (f_loadG tt_ok hA72 1 rfl rfl rfl rfl) rfl fun a hE => ?_; refine runq tt_ok 4 hE rfl fun a hE => ?_; refine q_end ?_; intro w hI; refine xT ?_; cases hF
  exact ⟨G0, (GH.le.refl _), hE.keep ⟨rfl, trivial⟩, hI⟩

theorem cl_111 : Callable Try.prog 111 := ⟨_, Try.func111, by kernel_rfl, by kernel_rfl⟩

def ref06_P_take.C (s : Tref06_P → ByteArray → Option (Bool × Tref06_P)) : Prop := ∀ (p0 : Tref06_P) (p1 : ByteArray) (r : Bool × Tref06_P), s p0 p1 = some r → ∀ (w0 : World) (G0 : GH) (D0 : List Nat) (b1 : Nat) (A2 : Option Addr) (c3 : Nat), Inv w0 G0 D0 G0 [.blk b1 [.slice A2 p0.T.length c3, .int .i64 p0.I, .int .i64 p0.Deep, .int .i64 p0.At, .int .i64 p0.E] 153] w0 → (Sl G0 A2 c3 4 (p0.T.map TToken.d)) → Calls Try.prog 111 #[.pointer (some ⟨b1, 0, none⟩), .string p1] w0 (Ret w0 G0 D0 fun G' L' v => L' = [.blk b1 [.slice A2 p0.T.length c3, .int .i64 r.2.I, .int .i64 p0.Deep, .int .i64 p0.At, .int .i64 p0.E] 153] ∧ v = .bool r.1)

theorem ref06_P_take.ok (k : Nat) : ref06_P_take.C (ref06_P_take k) := by
  intro p0 p1 r hF w0 G0 D0 b1 A2 c3 hI h4
  unfold ref06_P_take at hF
  refine calls_of_wp Try.func111 rfl ?_
  have hE : Env _ 16 [(0, .pointer (some ⟨b1, 0, none⟩)), (1, .string p1)] := Env.start ⟨[.pointer (some ⟨b1, 0, none⟩), .string p1]⟩ 14
  refine c_seq ?_; refine c_reg ?_; refine run tt_ok 1 hE rfl fun a hE => ?_; refine c_end ?_; refine xT ?_; refine c_seq ?_; refine c_seq ?_; refine c_reg ?_; refine run tt_ok 2 hE rfl fun a hE => ?_
  obtain ⟨y6, hy7, hF⟩ := bd hF
  refine s_callL (S := fun _ L' u => L' = [] ∧ u = .bool y6) cl_115 hI hE rfl rfl (by obtain ⟨G9, hg10, hI, hA11⟩ := (hI.front 0).giveB; have h12 : Pt G9 (some ⟨b1, 0, none⟩) 153 Tref06_P.d (some p0) := Pt.mk (Tref06_P.inv.2 ⟨A2, c3, rfl, (h4.mono hg10)⟩) hA11; exact ⟨_, (ref06_P_is.ok k) _ _ _ hy7 _ _ _ hI.pass0 h12⟩) (fun _ _ _ h => h.2) rfl ?_; clear hE hI; intro a w hI hE
  refine run tt_ok 1 hE rfl fun a hE => ?_; refine c_end ?_; refine xT ?_; refine c_if (b := !y6) hE rfl (fun hb14 => ?_) (fun hb14 => ?_)
  · replace hF := ct hb14 hF; refine c_seq ?_; refine c_reg ?_; refine run tt_ok 1 hE rfl fun a hE => ?_; refine c_end ?_; refine xT ?_; refine c_ret ?_; refine xTr ?_; cases hF
    refine r_ret (v := _) hE rfl ⟨_, _, _, rfl, hI, rfl, rfl⟩
  replace hF := cf hb14 hF; refine c_skip ?_; refine xT ?_; refine c_seq ?_; refine c_reg ?_; refine run tt_ok 3 hE rfl fun a hE => ?_; refine s_rt hI hE rfl (f_loadB tt_ok 0 rfl rfl rfl rfl) rfl fun a hE => ?_
  refine run tt_ok 3 hE rfl fun a hE => ?_; refine s_storeB tt_ok 0 hI hE rfl rfl rfl rfl rfl rfl rfl rfl rfl rfl fun a w hE hI => ?_; refine c_end ?_; refine xT ?_; refine c_seq ?_; refine c_reg ?_
  refine run tt_ok 1 hE rfl fun a hE => ?_; refine c_end ?_; refine xT ?_; refine c_ret ?_; cases hF; refine r_ret (v := _) hE rfl ⟨_, _, _, rfl, hI, rfl, rfl⟩

theorem cl_118 : Callable Try.prog 118 := ⟨_, Try.func118, by kernel_rfl, by kernel_rfl⟩

def ref06_P_bad.C (s : Tref06_P → Int → Option Tref06_P) : Prop := ∀ (p0 : Tref06_P) (p1 : Int) (r : Tref06_P), s p0 p1 = some r → ∀ (w0 : World) (G0 : GH) (D0 : List Nat) (b1 : Nat) (A2 : Option Addr) (c3 : Nat), Inv w0 G0 D0 G0 [.blk b1 [.slice A2 p0.T.length c3, .int .i64 p0.I, .int .i64 p0.Deep, .int .i64 p0.At, .int .i64 p0.E] 153] w0 → (Sl G0 A2 c3 4 (p0.T.map TToken.d)) → Calls Try.prog 118 #[.pointer (some ⟨b1, 0, none⟩), .int .i64 p1] w0 (Ret w0 G0 D0 fun G' L' v => L' = [.blk b1 [.slice A2 p0.T.length c3, .int .i64 p0.I, .int .i64 p0.Deep, .int .i64 r.At, .int .i64 r.E] 153] ∧ v = .tuple ⟨[]⟩)

theorem ref06_P_bad.ok (k : Nat) : ref06_P_bad.C (ref06_P_bad k) := by
  intro p0 p1 r hF w0 G0 D0 b1 A2 c3 hI h4
  unfold ref06_P_bad at hF
  refine calls_of_wp Try.func118 rfl ?_
  have hE : Env _ 27 [(0, .pointer (some ⟨b1, 0, none⟩)), (1, .int .i64 p1)] := Env.start ⟨[.pointer (some ⟨b1, 0, none⟩), .int .i64 p1]⟩ 25
  refine c_seq ?_; refine c_reg ?_; refine run tt_ok 3 hE rfl fun a hE => ?_; refine s_rt hI hE rfl (f_loadB tt_ok 0 rfl rfl rfl rfl) rfl fun a hE => ?_; refine run tt_ok 1 hE rfl fun a hE => ?_; refine c_end ?_
  refine xT ?_; refine c_if (b := decide (p0.E = (0 : Int))) hE rfl (fun hb26 => ?_) (fun hb26 => ?_); rotate_left
  · replace hF := cf hb26 hF; refine c_skip ?_; cases hF; refine r_end (v := _) hE rfl ⟨_, _, _, rfl, hI, rfl, rfl⟩
  replace hF := ct hb26 hF; refine c_seq ?_; refine c_reg ?_; refine run tt_ok 4 hE rfl fun a hE => ?_; refine s_storeB tt_ok 0 hI hE rfl rfl rfl rfl rfl rfl rfl rfl rfl rfl fun a w hE hI => ?_; refine c_end ?_
  refine xT ?_
  refine c_mix [14] (.step 0 0 (.step 1 0 (.step 2 0 (.step 3 0 (.step 4 1 (.step 5 0 (.step 6 0 (.step 7 0 (.step 8 1 (.step 9 0 (.step 10 0 (.step 11 1 (.step 12 0 (.step 13 0 (.step 14 3 .nil))))))))))))))) [.blk b1 [.slice A2 p0.T.length c3, .int .i64 p0.I, .int .i64 p0.Deep, .int .i64 p0.At, .int .i64 p1] 153] mixed (by kernel_rfl) hI ?_; clear hI; intro w hI
  have hS := hI.sw (Ls := [.blk b1 [.slice A2 p0.T.length c3, .int .i64 p0.I, .int .i64 p0.Deep, .int .i64 p0.At, .int .i64 p1] 153]) [0] (by decide) rfl (GH.le.refl _); refine mix_run tt_ok 4 hE rfl fun a hE => ?_
  refine d_ld hS hE rfl rfl (RT.sw fun _ => (f_loadB tt_ok 0 rfl rfl rfl rfl)) rfl fun a hE => ?_; refine mix_run tt_ok 3 hE rfl fun a hE => ?_
  refine d_ld hS hE rfl rfl (RT.sw fun _ => (f_loadB tt_ok 0 rfl rfl rfl rfl)) rfl fun a hE => ?_; obtain ⟨y23, hy24, hF⟩ := bd hF; obtain ⟨b19, o20, cs, hb25, hR22, hA21⟩ := sl_at h4 (getO_some hy24).1 (getO_some hy24).2
  obtain rfl := TToken.inv.1 hR22; refine d_rt hE rfl rfl (f_idx tt_ok hb25 rfl rfl rfl) rfl fun a hE => ?_; refine mix_run tt_ok 1 hE rfl fun a hE => ?_
  refine d_ld hS hE rfl rfl (RT.sw fun _ => (f_loadG tt_ok hA21 3 rfl rfl rfl rfl)) rfl fun a hE => ?_; refine mix_run tt_ok 2 hE rfl fun a hE => ?_; refine d_last rfl ?_
  refine s_storeB tt_ok 0 hI hE rfl rfl rfl rfl rfl rfl rfl rfl rfl rfl fun a w hE hI => ?_; refine d_nextl ?_; refine d_end ?_; cases hF; refine r_end (v := _) hE rfl ⟨_, _, _, rfl, hI, rfl, rfl⟩

theorem cl_133 : Callable Try.prog 133 := ⟨_, Try.func133, by kernel_rfl, by kernel_rfl⟩

def ref05_Words.C (s : Option (List ByteArray)) : Prop := ∀  (r : (List ByteArray)), s  = some r → ∀ (w0 : World) (G0 : GH) , Inv w0 G0 [] G0 [] w0 → Calls Try.prog 133 #[] w0 (Ret w0 G0 [] fun G' L' v => L' = [] ∧ ∃ A0 c0, v = .slice A0 r.length c0 ∧ Sl G' A0 c0 1 (r.map D.str))
end Go.Proofs.Ytliaopbgkcdibaa
