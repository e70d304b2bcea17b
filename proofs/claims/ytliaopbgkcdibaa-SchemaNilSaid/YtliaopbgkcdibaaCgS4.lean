/- The contracts: what the machine does at a call is what the plain function says. Written by mk.py. -/
import Derived.Test.YtliaopbgkcdibaaCgS3
set_option linter.unusedVariables false
set_option linter.unusedSimpArgs false
set_option maxRecDepth 100000
namespace Go.Proofs.Ytliaopbgkcdibaa
open Go.RowKit
theorem slices_Contains_int_int.ok (k : Nat) : slices_Contains_int_int.C (slices_Contains_int_int k) := by
  intro p0 p1 r hF w0 G0 A1 c2 hI h3
  unfold slices_Contains_int_int at hF
  refine calls_of_wp Try.func106 rfl ?_
  have hE : Env _ 9 [(0, .slice A1 p0.length c2), (1, .int .i64 p1)] := Env.start ⟨[.slice A1 p0.length c2, .int .i64 p1]⟩ 7
  refine c_seq ?_; refine c_reg ?_; refine run tt_ok 1 hE rfl fun a hE => ?_; refine c_end ?_; refine xT ?_; refine c_seq ?_; refine c_reg ?_; refine run tt_ok 2 hE rfl fun a hE => ?_; obtain ⟨y5, hy6, hF⟩ := bd hF
  refine s_call0 cl_119 hI hE rfl rfl ((slices_Index_int_int.ok k) _ _ _ hy6 _ _ _ _ hI.pass0 h3) rfl ?_; clear hE hI; rintro a w _ G8 _ ⟨rfl, rfl⟩ hg7 hI hE; refine run tt_ok 2 hE rfl fun a hE => ?_; refine c_end ?_
  refine xT ?_; refine c_ret ?_; cases hF; refine r_ret (v := _) hE rfl ⟨_, _, _, rfl, hI.nil, rfl, rfl⟩

theorem cl_94 : Callable Try.prog 94 := ⟨_, Try.func94, by kernel_rfl, by kernel_rfl⟩

def schema_Catalog_key.C (s : Tschema_Catalog → TTable → TRelation → (List (ByteArray × Int)) → Option (Int × Tschema_Catalog × TRelation)) : Prop := ∀ (p0 : Tschema_Catalog) (p1 : TTable) (p2 : TRelation) (p3 : List (ByteArray × Int)) (r : Int × Tschema_Catalog × TRelation), s p0 p1 p2 p3 = some r → ∀ (w0 : World) (G0 : GH) (D0 : List Nat) (b1 : Nat) (A2 : Option Addr) (u4 : Value) (u5 : Value) (u6 : Value) (u7 : Value) (cs17 : List Value) (b19 : Nat) (A20 : Option Addr) (c21 : Nat) (A25 : Option Addr) (c26 : Nat) (cs27 : List Value) (u29 : Value) (A30 : Option Nat), Inv w0 G0 D0 G0 [.blk b1 [.pointer A2, u4, u5, u6, u7, .int .i64 p0.limit_] 103, .blk b19 [.string p2.Name, .int .i64 p2.Rows, .slice A20 p2.Cols.length c21, .slice A25 p2.Key.length c26, .int .i64 p2.Hide, u29] 109, .row (.slice A25 p2.Key.length c26) 3 1 p2.Key.length cs27] w0 → (Pt G0 A2 78 Tlattice_Lattice.d p0.lattice_) → (Rep G0 p1.d cs17) → (Sl G0 A20 c21 4 (p2.Cols.map TField.d)) → (RL G0 1 (p2.Key.map (D.int .i64)) cs27) → (Mp G0 A30 false D.str (D.int .i64) p3) → Calls Try.prog 94 #[.pointer (some ⟨b1, 0, none⟩), .agg ⟨cs17⟩, .pointer (some ⟨b19, 0, none⟩), .map A30] w0 (Ret w0 G0 D0 fun G' L' v => ∃ A1_3 c1_3 e1_3, L' = [.blk b1 [.pointer A2, u4, u5, u6, u7, .int .i64 p0.limit_] 103, .blk b19 [.string p2.Name, .int .i64 p2.Rows, .slice A20 p2.Cols.length c21, .slice A1_3 r.2.2.Key.length c1_3, .int .i64 p2.Hide, u29] 109, .row (.slice A1_3 r.2.2.Key.length c1_3) 3 1 r.2.2.Key.length e1_3] ∧ v = .int .i64 r.1 ∧ RL G' 1 (r.2.2.Key.map (D.int .i64)) e1_3)

theorem schema_Catalog_key.ok (k : Nat) : schema_Catalog_key.C (schema_Catalog_key k) := by
  intro p0 p1 p2 p3 r hF w0 G0 D0 b1 A2 u4 u5 u6 u7 cs17 b19 A20 c21 A25 c26 cs27 u29 A30 hI h3 hR18 h22 hR28 h31
  unfold schema_Catalog_key at hF
  obtain ⟨A8, c9, A11, c12, A14, c15, rfl, h10, h13, h16⟩ := TTable.inv.1 hR18
  refine calls_of_wp Try.func94 rfl ?_
  have hE : Env _ 77 [(0, .pointer (some ⟨b1, 0, none⟩)), (1, .agg ⟨[.string p1.Name, .string p1.Rows, .slice A8 p1.Cols.length c9, .slice A11 p1.Key.length c12, .string p1.Hide, .slice A14 p1.When.length c15]⟩), (2, .pointer (some ⟨b19, 0, none⟩)), (3, .map A30)] := Env.start ⟨[.pointer (some ⟨b1, 0, none⟩), .agg ⟨[.string p1.Name, .string p1.Rows, .slice A8 p1.Cols.length c9, .slice A11 p1.Key.length c12, .string p1.Hide, .slice A14 p1.When.length c15]⟩, .pointer (some ⟨b19, 0, none⟩), .map A30]⟩ 73
  refine c_seq ?_; refine c_reg ?_; refine s_box hI hE rfl rfl rfl rfl fun a w b32 hE hI => ?_; refine run tt_ok 1 hE rfl fun a hE => ?_; refine c_end ?_; refine xT ?_; refine c_seq ?_; refine c_seq ?_; refine c_reg ?_
  refine run tt_ok 1 hE rfl fun a hE => ?_; refine s_rt hI hE rfl (f_loadB tt_ok 0 rfl rfl rfl rfl) rfl fun a hE => ?_; refine run tt_ok 2 hE rfl fun a hE => ?_; refine c_end ?_; refine xT ?_
  obtain ⟨o165, hO166, hK167⟩ := bd hF; clear hF
  refine c_cut (fun a' w' => ∃ (s169 : (List Int)) (G170 : GH) (A172 : Option Addr) (c173 : Nat) (cs174 : List Value), o165 = .go s169 ∧ G0.le G170 ∧ Env a' 77 [(0, .pointer (some ⟨b1, 0, none⟩)), (2, .pointer (some ⟨b19, 0, none⟩))] ∧ Inv w0 G0 D0 G170 [.blk b1 [.pointer A2, u4, u5, u6, u7, .int .i64 p0.limit_] 103, .blk b19 [.string p2.Name, .int .i64 p2.Rows, .slice A20 p2.Cols.length c21, .slice A172 s169.length c173, .int .i64 p2.Hide, u29] 109, .row (.slice A172 s169.length c173) 3 1 s169.length cs174] w' ∧ RL G170 1 (s169.map (D.int .i64)) cs174) ?_ ?_
  rotate_left
  · clear hE hI hO166; rintro a w ⟨s169, G170, A172, c173, cs174, rfl, hg176, hE, hI, hR175⟩; have hF := lrk_go hK167; clear hK167; refine xT ?_; refine c_seq ?_; refine c_seq ?_; refine c_reg ?_
    refine run tt_ok 3 hE rfl fun a hE => ?_; refine s_rt hI hE rfl (f_loadB tt_ok 1 rfl rfl rfl rfl) rfl fun a hE => ?_; refine run tt_ok 2 hE rfl fun a hE => ?_; refine c_end ?_; refine xT ?_
    have hl284 := hI.rle (xs := s169) 2 rfl; obtain ⟨o263, hO264, hK265⟩ := bd hF; clear hF
    refine c_cut (fun a' w' => ∃ (s267 : (List Int)) (G268 : GH) (A270 : Option Addr) (c271 : Nat) (cs272 : List Value), o263 = .go s267 ∧ G170.le G268 ∧ Env a' 77 [] ∧ Inv w0 G0 D0 G268 [.blk b1 [.pointer A2, u4, u5, u6, u7, .int .i64 p0.limit_] 103, .blk b19 [.string p2.Name, .int .i64 p2.Rows, .slice A20 p2.Cols.length c21, .slice A270 s267.length c271, .int .i64 p2.Hide, u29] 109, .row (.slice A270 s267.length c271) 3 1 s267.length cs272] w' ∧ RL G268 1 (s267.map (D.int .i64)) cs272) ?_ ?_
    rotate_left
    · clear hE hI hO264; rintro a w ⟨s267, G268, A270, c271, cs272, rfl, hg274, hE, hI, hR273⟩; have hF := lrk_go hK265; clear hK265; refine xT ?_; refine c_seq ?_; refine c_reg ?_; refine run tt_ok 1 hE rfl fun a hE => ?_
      refine c_end ?_; refine xT ?_; refine c_ret ?_; cases hF; refine r_ret (v := _) hE rfl ⟨_, _, _, rfl, hI, A270, c271, cs272, rfl, rfl, hR273⟩
    refine c_block ?_
    refine wp_loop_ghost (fun n' a' w' => ∃ (i277 : Nat) (rest279 : List Int) (s262 : (List Int)) (G256 : GH) (A258 : Option Addr) (c259 : Nat) (cs260 : List Value), n' = rest279.length ∧ i277 ≤ s169.length ∧ s169.drop i277 = rest279 ∧ forL (schema_Catalog_key.b0 k p2 p0) i277 rest279 s262 = some o263 ∧ G170.le G256 ∧ Env a' 77 [(54, .int .i64 (i277 : Int)), (0, .pointer (some ⟨b1, 0, none⟩)), (2, .pointer (some ⟨b19, 0, none⟩)), (52, .slice A258 s262.length c259), (53, .int .i64 (s169.length : Int))] ∧ Inv w0 G0 D0 G256 [.blk b1 [.pointer A2, u4, u5, u6, u7, .int .i64 p0.limit_] 103, .blk b19 [.string p2.Name, .int .i64 p2.Rows, .slice A20 p2.Cols.length c21, .slice A258 s262.length c259, .int .i64 p2.Hide, u29] 109, .row (.slice A258 s262.length c259) 3 1 s262.length cs260] w' ∧ RL G256 1 (s262.map (D.int .i64)) cs260) _ ⟨0, _, _, G170, A172, c173, cs174, rfl, Nat.zero_le _, rfl, hO264, (GH.le.refl _), hE.keep ⟨rfl, rfl, rfl, rfl, rfl, trivial⟩, hI, hR175⟩ ?_
    clear hE hI hO264; rintro m276 a w ⟨i277, rest279, s262, G256, A258, c259, cs260, rfl, hi283, hd280, hO264, hg266, hE, hI, hR261⟩; rcases rest279 with _ | ⟨x278, rest279⟩
    · obtain rfl := forL_nil hO264; have hlt282 := drop_nil hd280 hi283; clear hd280; refine c_seq ?_; refine c_reg ?_; refine run tt_ok 1 hE rfl fun a hE => ?_; refine c_end ?_; refine xT ?_; refine c_seq ?_
      have hE := hE.tr (t := 55) rfl (decide_eq_false (by omega)); refine c_false hE rfl ?_; refine c_exit ?_; refine xTe ?_; refine xTe ?_; refine xBh ?_; refine xT ?_
      exact ⟨_, G256, A258, c259, cs260, rfl, hg266, hE.keep trivial, hI, hR261⟩
    obtain ⟨stp275, hF, hO264⟩ := forL_step hO264; obtain ⟨hx281, hd280, hlt282⟩ := drop_cons hd280; unfold schema_Catalog_key.b0 at hF; refine c_seq ?_; refine c_reg ?_; refine run tt_ok 1 hE rfl fun a hE => ?_
    refine c_end ?_; refine xT ?_; refine c_seq ?_; have hE := hE.tr (t := 55) rfl (decide_eq_true (by omega)); refine c_true hE rfl ?_; refine c_skip ?_; refine xT ?_; refine c_seq ?_; refine c_block ?_; refine c_seq ?_
    refine c_reg ?_; obtain ⟨y286, hy287, hF⟩ := bd hF; obtain ⟨b292, rfl⟩ := row_ptr 2 hI rfl rfl (getO_some hy287).2; obtain ⟨ec288, hel289, hrep290, hcs291⟩ := rl_at hR261 (getO_some hy287).2
    obtain rfl := rep_int.1 hrep290; refine s_rt hI hE rfl (f_idx tt_ok (row_idx (getO_some hy287).1 (getO_some hy287).2 b292 1) rfl rfl rfl) rfl fun a hE => ?_
    refine s_rt hI hE rfl (f_loadR tt_ok 2 rfl hcs291 0 rfl rfl rfl rfl (row_len hR261 (getO_some hy287).2)) rfl fun a hE => ?_; refine run tt_ok 1 hE rfl fun a hE => ?_; refine c_end ?_; refine xT ?_; refine c_seq ?_
    refine c_draw mixed (by kernel_rfl) hI ?_; clear hI; refine runq tt_ok 3 hE rfl fun a hE => ?_; refine q_rt hE rfl (f_loadB tt_ok 0 rfl rfl rfl rfl) rfl fun a hE => ?_; refine runq tt_ok 3 hE rfl fun a hE => ?_
    refine q_rt hE rfl (f_loadB tt_ok 1 rfl rfl rfl rfl) rfl fun a hE => ?_; refine runq tt_ok 1 hE rfl fun a hE => ?_; obtain ⟨y304, hy305, hF⟩ := bd hF
    obtain ⟨b300, o301, cs, hb306, hR303, hA302⟩ := sl_at (h22.mono (hg176.trans hg266)) (getO_some hy305).1 (getO_some hy305).2; obtain rfl := TField.inv.1 hR303
    refine q_rt hE rfl (f_idx tt_ok hb306 rfl rfl rfl) rfl fun a hE => ?_; refine runq tt_ok 1 hE rfl fun a hE => ?_; refine q_rt hE rfl (f_loadG tt_ok hA302 3 rfl rfl rfl rfl) rfl fun a hE => ?_
    refine runq tt_ok 3 hE rfl fun a hE => ?_; refine q_rt hE rfl (f_loadB tt_ok 1 rfl rfl rfl rfl) rfl fun a hE => ?_; obtain ⟨y307, hy308, hF⟩ := bd hF
    refine q_call cl_13 hE rfl rfl (fun w hI => (lattice_Lattice_Leq.ok k) _ _ _ _ hy308 _ _ _ hI.pass0 (h3.mono (hg176.trans hg266))) (fun _ _ _ h => h.2) rfl fun a hE => ?_; refine runq tt_ok 1 hE rfl fun a hE => ?_
    refine q_end ?_; intro w hI; refine xT ?_; refine c_if (b := !y307) hE rfl (fun hb310 => ?_) (fun hb310 => ?_)
    · replace hF := ct hb310 hF; refine c_seq ?_; refine c_reg ?_; refine run tt_ok 1 hE rfl fun a hE => ?_; refine c_end ?_; refine xT ?_; refine c_ret ?_; refine xBr ?_; refine xTr ?_; refine xTr ?_; refine xBr ?_
      refine xTr ?_; refine xTr ?_; cases hF; obtain rfl := nxt_ret hO264; have hF := lrk_ret hK265; cases hF; refine r_ret (v := _) hE rfl ⟨_, _, _, rfl, hI, (some ⟨b292, 0, none⟩), c259, cs260, rfl, rfl, hR261⟩
    replace hF := cf hb310 hF; refine c_skip ?_; refine xB ?_; refine xT ?_; refine c_reg ?_; refine run tt_ok 2 hE rfl fun a hE => ?_; refine c_end ?_; refine xT ?_; cases hF
    have hE := hE.setI (t := 54) rfl (w64_succ hlt282 hl284)
    exact ⟨rest279.length, Nat.lt_succ_self _, i277 + 1, rest279, _, G256, (some ⟨b292, 0, none⟩), c259, cs260, rfl, hlt282, hd280, hO264, hg266, hE.keep ⟨rfl, rfl, rfl, rfl, rfl, trivial⟩, hI, hR261⟩
  refine c_block ?_
  refine wp_loop_ghost (fun n' a' w' => ∃ (i313 : Nat) (rest315 : List ByteArray) (s164 : (List Int)) (G158 : GH) (A160 : Option Addr) (c161 : Nat) (cs162 : List Value), n' = rest315.length ∧ i313 ≤ p1.Key.length ∧ p1.Key.drop i313 = rest315 ∧ forL (schema_Catalog_key.b1 k p3 p0 p2) i313 rest315 s164 = some o165 ∧ G0.le G158 ∧ Env a' 77 [(18, .int .i64 (i313 : Int)), (0, .pointer (some ⟨b1, 0, none⟩)), (2, .pointer (some ⟨b19, 0, none⟩)), (3, .map A30), (16, .slice A11 p1.Key.length c12), (17, .int .i64 (p1.Key.length : Int))] ∧ Inv w0 G0 D0 G158 [.blk b1 [.pointer A2, u4, u5, u6, u7, .int .i64 p0.limit_] 103, .blk b19 [.string p2.Name, .int .i64 p2.Rows, .slice A20 p2.Cols.length c21, .slice A160 s164.length c161, .int .i64 p2.Hide, u29] 109, .row (.slice A160 s164.length c161) 3 1 s164.length cs162] w' ∧ RL G158 1 (s164.map (D.int .i64)) cs162) _ ⟨0, _, _, G0, A25, c26, cs27, rfl, Nat.zero_le _, rfl, hO166, (GH.le.refl _), hE.keep ⟨rfl, rfl, rfl, rfl, rfl, rfl, trivial⟩, (hI.dropN 1 rfl), hR28⟩ ?_
  clear hE hI hO166; rintro m312 a w ⟨i313, rest315, s164, G158, A160, c161, cs162, rfl, hi319, hd316, hO166, hg168, hE, hI, hR163⟩; rcases rest315 with _ | ⟨x314, rest315⟩
  · obtain rfl := forL_nil hO166; have hlt318 := drop_nil hd316 hi319; clear hd316; refine c_seq ?_; refine c_reg ?_; refine run tt_ok 1 hE rfl fun a hE => ?_; refine c_end ?_; refine xT ?_; refine c_seq ?_
    have hE := hE.tr (t := 19) rfl (decide_eq_false (by omega)); refine c_false hE rfl ?_; refine c_exit ?_; refine xTe ?_; refine xTe ?_; refine xBh ?_; refine xT ?_
    exact ⟨_, G158, A160, c161, cs162, rfl, hg168, hE.keep ⟨rfl, rfl, trivial⟩, hI, hR163⟩
  obtain ⟨stp311, hF, hO166⟩ := forL_step hO166; obtain ⟨hx317, hd316, hlt318⟩ := drop_cons hd316; unfold schema_Catalog_key.b1 at hF; refine c_seq ?_; refine c_reg ?_; refine run tt_ok 1 hE rfl fun a hE => ?_
  refine c_end ?_; refine xT ?_; refine c_seq ?_; have hE := hE.tr (t := 19) rfl (decide_eq_true (by omega)); refine c_true hE rfl ?_; refine c_skip ?_; refine xT ?_; refine c_seq ?_; refine c_block ?_; refine c_seq ?_
  refine c_reg ?_; obtain ⟨b321, o322, cs, hb325, hR324, hA323⟩ := sl_at (h13.mono hg168) (Int.natCast_nonneg _) (natIdx hx317); obtain rfl := rep_str.1 hR324
  refine s_rt hI hE rfl (f_idx tt_ok hb325 rfl rfl rfl) rfl fun a hE => ?_; refine s_rt hI hE rfl (f_loadG tt_ok hA323 0 rfl rfl rfl rfl) rfl fun a hE => ?_; refine run tt_ok 1 hE rfl fun a hE => ?_; refine c_end ?_
  refine xT ?_; refine c_seq ?_; refine c_reg ?_; refine run tt_ok 2 hE rfl fun a hE => ?_
  obtain ⟨c328, u329, hr330, hu331, hrt332⟩ := f_lookG key_str (h31.mono hg168) um_73 uk_9 true hE (L := [.blk b1 [.pointer A2, u4, u5, u6, u7, .int .i64 p0.limit_] 103, .blk b19 [.string p2.Name, .int .i64 p2.Rows, .slice A20 p2.Cols.length c21, .slice A160 s164.length c161, .int .i64 p2.Hide, u29] 109, .row (.slice A160 s164.length c161) 3 1 s164.length cs162]) (x := .tmp 23) (y := .tmp 24) rfl rfl z_3 (rep_int.2 rfl) rfl
  obtain rfl : c328 = [u329] := hu331; obtain rfl := rep1_int.1 hr330; refine s_rt hI hE rfl (hrt332 _ _ _) rfl fun a hE => ?_; refine run tt_ok 5 hE rfl fun a hE => ?_; refine c_end ?_; refine xT ?_; refine c_seq ?_
  refine c_seq ?_; obtain ⟨m342, hF, hR344⟩ := bd hF
  refine c_cut (fun a' w' => ∃ (G340 : GH), G158.le G340 ∧ Env a' 77 [(0, .pointer (some ⟨b1, 0, none⟩)), (2, .pointer (some ⟨b19, 0, none⟩)), (3, .map A30), (11, .int .i64 ((mget p3 x314).getD (0 : Int))), (16, .slice A11 p1.Key.length c12), (17, .int .i64 (p1.Key.length : Int)), (18, .int .i64 (i313 : Int)), (37, .bool m342)] ∧ Inv w0 G0 D0 G340 [.blk b1 [.pointer A2, u4, u5, u6, u7, .int .i64 p0.limit_] 103, .blk b19 [.string p2.Name, .int .i64 p2.Rows, .slice A20 p2.Cols.length c21, .slice A160 s164.length c161, .int .i64 p2.Hide, u29] 109, .row (.slice A160 s164.length c161) 3 1 s164.length cs162] w') ?_ ?_
  · refine c_reg ?_; refine run tt_ok 3 hE rfl fun a hE => ?_; rcases bool_or (!((mget p3 x314).isSome)) with hb362 | hb362
    · replace hF := ct hb362 hF; have hE := hE.tr (t := 30) rfl hb362; clear hb362; refine run tt_ok 7 hE rfl fun a hE => ?_; refine c_end ?_; refine xT ?_; cases hF
      exact ⟨G158, (GH.le.refl _), hE.keep ⟨rfl, rfl, rfl, rfl, rfl, rfl, rfl, rfl, trivial⟩, hI⟩
    replace hF := cf hb362 hF; have hE := hE.tr (t := 30) rfl hb362; clear hb362; refine run tt_ok 3 hE rfl fun a hE => ?_; refine s_rt hI hE rfl (f_loadB tt_ok 1 rfl rfl rfl rfl) rfl fun a hE => ?_
    refine run tt_ok 1 hE rfl fun a hE => ?_; obtain ⟨y363, hy364, hF⟩ := bd hF
    refine s_callL (S := fun _ L' u => L' = [] ∧ u = .bool y363) cl_106 hI hE rfl rfl (by obtain ⟨G366, hg367, hI, h368⟩ := (hI.front 2).giveR (xs := s164.map (D.int .i64)) (by simp) hR163; exact ⟨_, (slices_Contains_int_int.ok k) _ _ _ hy364 _ _ _ _ hI.pass0 h368⟩) (fun _ _ _ h => h.2) rfl ?_; clear hE hI; intro a w hI hE
    refine run tt_ok 1 hE rfl fun a hE => ?_; refine c_end ?_; refine xT ?_; cases hF; exact ⟨G158, (GH.le.refl _), hE.keep ⟨rfl, rfl, rfl, rfl, rfl, rfl, rfl, rfl, trivial⟩, hI⟩
  clear hE hI; rintro a w ⟨G340, hg343, hE, hI⟩; clear hF; have hF := hR344; clear hR344; refine xT ?_; refine c_if (b := m342) hE rfl (fun hb361 => ?_) (fun hb361 => ?_)
  · replace hF := ct hb361 hF; refine c_seq ?_; refine c_reg ?_; refine run tt_ok 1 hE rfl fun a hE => ?_; refine c_end ?_; refine xT ?_; refine c_ret ?_; refine xTr ?_; refine xBr ?_; refine xTr ?_; refine xTr ?_
    refine xBr ?_; refine xTr ?_; refine xTr ?_; cases hF; obtain rfl := nxt_ret hO166; have hF := lrk_ret hK167; cases hF; refine r_ret (v := _) hE rfl ⟨_, _, _, rfl, hI, A160, c161, cs162, rfl, rfl, (hR163.mono hg343)⟩
  replace hF := cf hb361 hF; refine c_skip ?_; refine xT ?_; refine c_reg ?_; refine run tt_ok 4 hE rfl fun a hE => ?_; refine s_rt hI hE rfl (f_loadB tt_ok 1 rfl rfl rfl rfl) rfl fun a hE => ?_
  refine run tt_ok 1 hE rfl fun a hE => ?_; refine s_bsl ai_45 hI hE rfl rfl rfl rfl rfl fun a w b353 hE hI => ?_
  have hR355 : RL G340 1 ([((mget p3 x314).getD (0 : Int))].map (D.int .i64)) [.int .i64 ((mget p3 x314).getD (0 : Int))] := (RL.cons (rep_int.2 rfl) rfl RL.nil); obtain ⟨_, hb356, hF⟩ := bd hF
  refine s_appO (f := (D.int .i64)) (xs := s164) (ys := [((mget p3 x314).getD (0 : Int))]) ai_45 3 0 hI hE rfl rfl rfl hR355 rfl rfl (lim_le hb356) rfl fun a w A357 c358 hE hI => ?_
  have hR360 := RL.appm (hR163.mono hg343) hR355; refine run tt_ok 2 hE rfl fun a hE => ?_; refine s_storeB tt_ok 2 hI hE rfl rfl rfl rfl rfl rfl rfl rfl rfl rfl fun a w hE hI => ?_; refine c_end ?_; refine xB ?_
  refine xT ?_; refine c_reg ?_; refine run tt_ok 2 hE rfl fun a hE => ?_; refine c_end ?_; refine xT ?_; cases hF; have hE := hE.setI (t := 18) rfl (w64_succ hlt318 (len_le h13))
  exact ⟨rest315.length, Nat.lt_succ_self _, i313 + 1, rest315, _, G340, A357, c358, (cs162 ++ [.int .i64 ((mget p3 x314).getD (0 : Int))]), rfl, hlt318, hd316, hO166, (hg168.trans hg343), hE.keep ⟨rfl, rfl, rfl, rfl, rfl, rfl, trivial⟩, (hI.dropN 1 rfl), hR360⟩

theorem cl_120 : Callable Try.prog 120 := ⟨_, Try.func120, by kernel_rfl, by kernel_rfl⟩

def schema_total.C (s : ByteArray → Option Bool) : Prop := ∀ (p0 : ByteArray) (r : Bool), s p0 = some r → ∀ (w0 : World) (G0 : GH) , Inv w0 G0 [] G0 [] w0 → Calls Try.prog 120 #[.string p0] w0 (Ret w0 G0 [] fun G' L' v => L' = [] ∧ v = .bool r)

theorem schema_total.ok (k : Nat) : schema_total.C (schema_total k) := by
  intro p0 r hF w0 G0  hI 
  unfold schema_total at hF
  refine calls_of_wp Try.func120 rfl ?_
  have hE : Env _ 14 [(0, .string p0)] := Env.start ⟨[.string p0]⟩ 13
  refine c_seq ?_; refine c_reg ?_; refine run tt_ok 1 hE rfl fun a hE => ?_; refine c_end ?_; refine xT ?_; refine c_seq ?_; refine c_seq ?_; refine c_reg ?_; refine run tt_ok 1 hE rfl fun a hE => ?_; refine c_end ?_
  refine xT ?_; refine c_cut (fun a' w' => ∃ (m54 : Unit), schema_total.j0 k m54 = some r ∧ ∃ (G53 : GH), G0.le G53 ∧ Env a' 14 [] ∧ Inv w0 G0 [] G53 [] w') ?_ ?_; rotate_left
  · clear hE hI hF; rintro a w ⟨m54, hF, G53, hg55, hE, hI⟩; unfold schema_total.j0 at hF; refine xT ?_; refine c_seq ?_; refine c_reg ?_; refine run tt_ok 1 hE rfl fun a hE => ?_; refine c_end ?_; refine xT ?_
    refine c_ret ?_; cases hF; refine r_ret (v := _) hE rfl ⟨_, _, _, rfl, hI.nil, rfl, rfl⟩
  refine c_block ?_; refine c_seq ?_; refine c_cut (fun a' w' => ∃ (m82 : Unit), schema_total.j1 k m82 = some r ∧ ∃ (G81 : GH), G0.le G81 ∧ Env a' 14 [] ∧ Inv w0 G0 [] G81 [] w') ?_ ?_; rotate_left
  · clear hE hI hF; rintro a w ⟨m82, hF, G81, hg83, hE, hI⟩; unfold schema_total.j1 at hF; refine xT ?_; refine c_seq ?_; refine c_seq ?_; refine c_reg ?_; refine run tt_ok 1 hE rfl fun a hE => ?_; refine c_end ?_
    refine xT ?_; refine c_ret ?_; refine xTr ?_; refine xBr ?_; refine xTr ?_; refine xTr ?_; cases hF; refine r_ret (v := _) hE rfl ⟨_, _, _, rfl, hI.nil, rfl, rfl⟩
  refine c_block ?_; refine c_block ?_; refine c_seq ?_; refine c_seq ?_; refine c_seq ?_; refine c_seq ?_; refine c_reg ?_; refine run tt_ok 2 hE rfl fun a hE => ?_; refine c_end ?_; refine xT ?_
  obtain ⟨m90, hF, hR92⟩ := bd hF; refine c_cut (fun a' w' => ∃ (G88 : GH), G0.le G88 ∧ Env a' 14 [(3, .string p0), (4, .bool m90)] ∧ Inv w0 G0 [] G88 [] w') ?_ ?_
  · refine c_if (b := decide (p0 = (⟨#[111, 114]⟩ : ByteArray))) hE rfl (fun hb108 => ?_) (fun hb108 => ?_)
    · replace hF := ct hb108 hF; refine c_skip ?_; refine xT ?_; cases hF; exact ⟨G0, (GH.le.refl _), hE.keep ⟨rfl, rfl, trivial⟩, hI⟩
    replace hF := cf hb108 hF; refine c_seq ?_; refine c_reg ?_; refine run tt_ok 2 hE rfl fun a hE => ?_; refine c_end ?_; refine xT ?_
    refine c_if (b := decide (p0 = (⟨#[97, 110, 100]⟩ : ByteArray))) hE rfl (fun hb107 => ?_) (fun hb107 => ?_)
    · replace hF := ct hb107 hF; refine c_skip ?_; refine xT ?_; cases hF; exact ⟨G0, (GH.le.refl _), hE.keep ⟨rfl, rfl, trivial⟩, hI⟩
    replace hF := cf hb107 hF; refine c_seq ?_; refine c_reg ?_; refine run tt_ok 2 hE rfl fun a hE => ?_; refine c_end ?_; refine xT ?_
    refine c_if (b := decide (p0 = (⟨#[61]⟩ : ByteArray))) hE rfl (fun hb106 => ?_) (fun hb106 => ?_)
    · replace hF := ct hb106 hF; refine c_skip ?_; refine xT ?_; cases hF; exact ⟨G0, (GH.le.refl _), hE.keep ⟨rfl, rfl, trivial⟩, hI⟩
    replace hF := cf hb106 hF; refine c_reg ?_; refine run tt_ok 2 hE rfl fun a hE => ?_; refine c_end ?_; refine xT ?_; cases hF; exact ⟨G0, (GH.le.refl _), hE.keep ⟨rfl, rfl, trivial⟩, hI⟩
  clear hE hI; rintro a w ⟨G88, hg91, hE, hI⟩; clear hF; have hF := hR92; clear hR92; refine xT ?_; refine c_if (b := m90) hE rfl (fun hb105 => ?_) (fun hb105 => ?_)
  · replace hF := ct hb105 hF; refine c_exit ?_; refine xTe ?_; refine xTe ?_; refine xBh ?_; refine xB ?_; refine xT ?_; exact ⟨_, hF, G88, hg91, hE.keep trivial, hI⟩
  replace hF := cf hb105 hF; refine c_skip ?_; refine xT ?_; refine c_seq ?_; refine c_seq ?_; refine c_reg ?_; refine run tt_ok 2 hE rfl fun a hE => ?_; refine c_end ?_; refine xT ?_; obtain ⟨m98, hF, hR100⟩ := bd hF
  refine c_cut (fun a' w' => ∃ (G96 : GH), G88.le G96 ∧ Env a' 14 [(9, .bool m98)] ∧ Inv w0 G0 [] G96 [] w') ?_ ?_; rotate_left
  · clear hE hI; rintro a w ⟨G96, hg99, hE, hI⟩; clear hF; have hF := hR100; clear hR100; refine xT ?_; refine c_if (b := m98) hE rfl (fun hb101 => ?_) (fun hb101 => ?_)
    · replace hF := ct hb101 hF; refine c_exit ?_; refine xTe ?_; refine xBm rfl ?_; refine xBh ?_; refine xT ?_; exact ⟨_, hF, G96, (hg91.trans hg99), hE.keep trivial, hI⟩
    replace hF := cf hb101 hF; refine c_skip ?_; refine xT ?_; refine c_exit ?_; refine xBm rfl ?_; refine xBm rfl ?_; refine xTe ?_; refine xTe ?_; refine xBh ?_; refine xT ?_
    exact ⟨_, hF, G96, (hg91.trans hg99), hE.keep trivial, hI⟩
  refine c_if (b := decide (p0 = (⟨#[60]⟩ : ByteArray))) hE rfl (fun hb104 => ?_) (fun hb104 => ?_)
  · replace hF := ct hb104 hF; refine c_skip ?_; refine xT ?_; cases hF; exact ⟨G88, (GH.le.refl _), hE.keep ⟨rfl, trivial⟩, hI⟩
  replace hF := cf hb104 hF; refine c_seq ?_; refine c_reg ?_; refine run tt_ok 2 hE rfl fun a hE => ?_; refine c_end ?_; refine xT ?_
  refine c_if (b := decide (p0 = (⟨#[60, 61]⟩ : ByteArray))) hE rfl (fun hb103 => ?_) (fun hb103 => ?_)
  · replace hF := ct hb103 hF; refine c_skip ?_; refine xT ?_; cases hF; exact ⟨G88, (GH.le.refl _), hE.keep ⟨rfl, trivial⟩, hI⟩
  replace hF := cf hb103 hF; refine c_seq ?_; refine c_reg ?_; refine run tt_ok 2 hE rfl fun a hE => ?_; refine c_end ?_; refine xT ?_
  refine c_if (b := decide (p0 = (⟨#[62]⟩ : ByteArray))) hE rfl (fun hb102 => ?_) (fun hb102 => ?_)
  · replace hF := ct hb102 hF; refine c_skip ?_; refine xT ?_; cases hF; exact ⟨G88, (GH.le.refl _), hE.keep ⟨rfl, trivial⟩, hI⟩
  replace hF := cf hb102 hF; refine c_reg ?_; refine run tt_ok 2 hE rfl fun a hE => ?_; refine c_end ?_; refine xT ?_; cases hF; exact ⟨G88, (GH.le.refl _), hE.keep ⟨rfl, trivial⟩, hI⟩

theorem cl_107 : Callable Try.prog 107 := ⟨_, Try.func107, by kernel_rfl, by kernel_rfl⟩

def schema_predicate_shape.C (s : Tschema_predicate → TExpr → Int → Option (Bool × Tschema_predicate)) : Prop := ∀ (p0 : Tschema_predicate) (p1 : TExpr) (p2 : Int) (r : Bool × Tschema_predicate), s p0 p1 p2 = some r → ∀ (w0 : World) (G0 : GH) (D0 : List Nat) (b1 : Nat) (A2 : Option Nat) (u4 : Value) (A7 : Option Addr) (c8 : Nat) (cs9 : List Value) (cs17 : List Value), Inv w0 G0 D0 G0 [.blk b1 [.string p0.table_, .map A2, u4, .slice A7 p0.used_.length c8] 165, .row (.slice A7 p0.used_.length c8) 3 1 p0.used_.length cs9] w0 → (Mp G0 A2 false D.str (D.int .i64) p0.cols_) → (RL G0 1 (p0.used_.map (D.int .i64)) cs9) → (Rep G0 p1.d cs17) → Calls Try.prog 107 #[.pointer (some ⟨b1, 0, none⟩), .agg ⟨cs17⟩, .int .i64 p2] w0 (Ret w0 G0 D0 fun G' L' v => ∃ A0_3 c0_3 e0_3, L' = [.blk b1 [.string p0.table_, .map A2, u4, .slice A0_3 r.2.used_.length c0_3] 165, .row (.slice A0_3 r.2.used_.length c0_3) 3 1 r.2.used_.length e0_3] ∧ v = .bool r.1 ∧ RL G' 1 (r.2.used_.map (D.int .i64)) e0_3)

theorem schema_predicate_shape.F_ok (k : Nat) (s_schema_predicate_shape : Tschema_predicate → TExpr → Int → Option (Bool × Tschema_predicate)) (hs_schema_predicate_shape : schema_predicate_shape.C s_schema_predicate_shape) : schema_predicate_shape.C (schema_predicate_shape.F k s_schema_predicate_shape) := by
  intro p0 p1 p2 r hF w0 G0 D0 b1 A2 u4 A7 c8 cs9 cs17 hI h3 hR10 hR18
  unfold schema_predicate_shape.F at hF
  obtain ⟨A11, c12, A14, c15, rfl, h13, h16⟩ := TExpr.inv.1 hR18
  refine calls_of_wp Try.func107 rfl ?_
  have hE : Env _ 113 [(0, .pointer (some ⟨b1, 0, none⟩)), (1, .agg ⟨[.int .i64 p1.Kind, .int .i64 p1.N, .string p1.S, .string p1.T, .slice A11 p1.Kids.length c12, .slice A14 p1.Q.length c15]⟩), (2, .int .i64 p2)] := Env.start ⟨[.pointer (some ⟨b1, 0, none⟩), .agg ⟨[.int .i64 p1.Kind, .int .i64 p1.N, .string p1.S, .string p1.T, .slice A11 p1.Kids.length c12, .slice A14 p1.Q.length c15]⟩, .int .i64 p2]⟩ 110
  refine c_seq ?_; refine c_reg ?_; refine s_box hI hE rfl rfl rfl rfl fun a w b19 hE hI => ?_; refine run tt_ok 1 hE rfl fun a hE => ?_; refine c_end ?_; refine xT ?_; refine c_seq ?_; refine c_seq ?_
  obtain ⟨m23, hF, hR25⟩ := bd hF
  refine c_cut (fun a' w' => ∃ (G21 : GH), G0.le G21 ∧ Env a' 113 [(0, .pointer (some ⟨b1, 0, none⟩)), (2, .int .i64 p2), (4, .pointer (some ⟨b19, 0, none⟩)), (19, .bool m23)] ∧ Inv w0 G0 D0 G21 [.blk b19 [.int .i64 p1.Kind, .int .i64 p1.N, .string p1.S, .string p1.T, .slice A11 p1.Kids.length c12, .slice A14 p1.Q.length c15] 117, .blk b1 [.string p0.table_, .map A2, u4, .slice A7 p0.used_.length c8] 165, .row (.slice A7 p0.used_.length c8) 3 1 p0.used_.length cs9] w') ?_ ?_
  · refine c_reg ?_; refine run tt_ok 3 hE rfl fun a hE => ?_; rcases bool_or (decide ((40 : Int) < p2)) with hb511 | hb511
    · replace hF := ct hb511 hF; have hE := hE.tr (t := 14) rfl hb511; clear hb511; refine run tt_ok 5 hE rfl fun a hE => ?_; refine c_end ?_; refine xT ?_; cases hF
      exact ⟨G0, (GH.le.refl _), hE.keep ⟨rfl, rfl, rfl, rfl, trivial⟩, hI⟩
    replace hF := cf hb511 hF; have hE := hE.tr (t := 14) rfl hb511; clear hb511; refine run tt_ok 1 hE rfl fun a hE => ?_; refine s_rt hI hE rfl (f_loadB tt_ok 0 rfl rfl rfl rfl) rfl fun a hE => ?_
    refine run tt_ok 3 hE rfl fun a hE => ?_; refine c_end ?_; refine xT ?_; cases hF; exact ⟨G0, (GH.le.refl _), hE.keep ⟨rfl, rfl, rfl, rfl, trivial⟩, hI⟩
  clear hE hI; rintro a w ⟨G21, hg24, hE, hI⟩; clear hF; have hF := hR25; clear hR25; refine xT ?_; refine c_if (b := m23) hE rfl (fun hb510 => ?_) (fun hb510 => ?_)
  · replace hF := ct hb510 hF; refine c_seq ?_; refine c_reg ?_; refine run tt_ok 1 hE rfl fun a hE => ?_; refine c_end ?_; refine xT ?_; refine c_ret ?_; refine xTr ?_; cases hF
    refine r_ret (v := _) hE rfl ⟨_, _, _, rfl, (hI.pick [1, 2] (by decide) rfl), A7, c8, cs9, rfl, rfl, (hR10.mono hg24)⟩
  replace hF := cf hb510 hF; refine c_skip ?_; refine xT ?_; refine c_seq ?_; refine c_reg ?_; refine run tt_ok 1 hE rfl fun a hE => ?_; refine c_end ?_; refine xT ?_; refine c_seq ?_; refine c_seq ?_; refine c_reg ?_
  refine run tt_ok 1 hE rfl fun a hE => ?_; refine s_rt hI hE rfl (f_loadB tt_ok 0 rfl rfl rfl rfl) rfl fun a hE => ?_; refine c_end ?_; refine xT ?_
  refine c_cut (fun a' w' => ∃ (m185 : (List Int) × Int), schema_predicate_shape.j1 k s_schema_predicate_shape p1 p0 p2 m185 = some r ∧ ∃ (G178 : GH) (A180 : Option Addr) (c181 : Nat) (cs182 : List Value), G21.le G178 ∧ Env a' 113 [(0, .pointer (some ⟨b1, 0, none⟩)), (2, .int .i64 p2), (4, .pointer (some ⟨b19, 0, none⟩)), (7, .int .i64 m185.2)] ∧ Inv w0 G0 D0 G178 [.blk b19 [.int .i64 p1.Kind, .int .i64 p1.N, .string p1.S, .string p1.T, .slice A11 p1.Kids.length c12, .slice A14 p1.Q.length c15] 117, .blk b1 [.string p0.table_, .map A2, u4, .slice A180 m185.1.length c181] 165, .row (.slice A180 m185.1.length c181) 3 1 m185.1.length cs182] w' ∧ RL G178 1 (m185.1.map (D.int .i64)) cs182) ?_ ?_
  rotate_left
  · clear hE hI hF; rintro a w ⟨m185, hF, G178, A180, c181, cs182, hg186, hE, hI, hR183⟩; unfold schema_predicate_shape.j1 at hF; refine xT ?_; refine c_seq ?_; refine c_seq ?_; refine c_reg ?_
    refine run tt_ok 1 hE rfl fun a hE => ?_; refine s_rt hI hE rfl (f_loadB tt_ok 0 rfl rfl rfl rfl) rfl fun a hE => ?_; refine run tt_ok 3 hE rfl fun a hE => ?_; refine c_end ?_; refine xT ?_
    refine c_if (b := !decide ((p1.Kids.length : Int) = m185.2)) hE rfl (fun hb358 => ?_) (fun hb358 => ?_)
    · replace hF := ct hb358 hF; refine c_seq ?_; refine c_reg ?_; refine run tt_ok 1 hE rfl fun a hE => ?_; refine c_end ?_; refine xT ?_; refine c_ret ?_; refine xTr ?_; cases hF
      refine r_ret (v := _) hE rfl ⟨_, _, _, rfl, (hI.pick [1, 2] (by decide) rfl), A180, c181, cs182, rfl, rfl, hR183⟩
    replace hF := cf hb358 hF; refine c_skip ?_; refine xT ?_; refine c_seq ?_; refine c_seq ?_; refine c_reg ?_; refine run tt_ok 1 hE rfl fun a hE => ?_
    refine s_rt hI hE rfl (f_loadB tt_ok 0 rfl rfl rfl rfl) rfl fun a hE => ?_; refine run tt_ok 2 hE rfl fun a hE => ?_; refine c_end ?_; refine xT ?_; obtain ⟨o300, hO301, hK302⟩ := bd hF; clear hF
    refine c_cut (fun a' w' => ∃ (s304 : (List Int)) (G305 : GH) (A307 : Option Addr) (c308 : Nat) (cs309 : List Value), o300 = .go s304 ∧ G178.le G305 ∧ Env a' 113 [] ∧ Inv w0 G0 D0 G305 [.blk b1 [.string p0.table_, .map A2, u4, .slice A307 s304.length c308] 165, .row (.slice A307 s304.length c308) 3 1 s304.length cs309] w' ∧ RL G305 1 (s304.map (D.int .i64)) cs309) ?_ ?_
    rotate_left
    · clear hE hI hO301; rintro a w ⟨s304, G305, A307, c308, cs309, rfl, hg311, hE, hI, hR310⟩; have hF := lrk_go hK302; clear hK302; refine xT ?_; refine c_seq ?_; refine c_reg ?_; refine run tt_ok 1 hE rfl fun a hE => ?_
      refine c_end ?_; refine xT ?_; refine c_ret ?_; cases hF; refine r_ret (v := _) hE rfl ⟨_, _, _, rfl, hI, A307, c308, cs309, rfl, rfl, hR310⟩
    refine c_block ?_
    refine wp_loop_ghost (fun n' a' w' => ∃ (i314 : Nat) (rest316 : List TExpr) (s299 : (List Int)) (G293 : GH) (A295 : Option Addr) (c296 : Nat) (cs297 : List Value), n' = rest316.length ∧ i314 ≤ p1.Kids.length ∧ p1.Kids.drop i314 = rest316 ∧ forL (schema_predicate_shape.b0 k s_schema_predicate_shape p0 p2) i314 rest316 s299 = some o300 ∧ G178.le G293 ∧ Env a' 113 [(102, .int .i64 (i314 : Int)), (0, .pointer (some ⟨b1, 0, none⟩)), (2, .int .i64 p2), (100, .slice A11 p1.Kids.length c12), (101, .int .i64 (p1.Kids.length : Int))] ∧ Inv w0 G0 D0 G293 [.blk b1 [.string p0.table_, .map A2, u4, .slice A295 s299.length c296] 165, .row (.slice A295 s299.length c296) 3 1 s299.length cs297] w' ∧ RL G293 1 (s299.map (D.int .i64)) cs297) _ ⟨0, _, _, G178, A180, c181, cs182, rfl, Nat.zero_le _, rfl, hO301, (GH.le.refl _), hE.keep ⟨rfl, rfl, rfl, rfl, rfl, trivial⟩, (hI.dropN 1 rfl), hR183⟩ ?_
    clear hE hI hO301; rintro m313 a w ⟨i314, rest316, s299, G293, A295, c296, cs297, rfl, hi320, hd317, hO301, hg303, hE, hI, hR298⟩; rcases rest316 with _ | ⟨x315, rest316⟩
    · obtain rfl := forL_nil hO301; have hlt319 := drop_nil hd317 hi320; clear hd317; refine c_seq ?_; refine c_reg ?_; refine run tt_ok 1 hE rfl fun a hE => ?_; refine c_end ?_; refine xT ?_; refine c_seq ?_
      have hE := hE.tr (t := 103) rfl (decide_eq_false (by omega)); refine c_false hE rfl ?_; refine c_exit ?_; refine xTe ?_; refine xTe ?_; refine xBh ?_; refine xT ?_
      exact ⟨_, G293, A295, c296, cs297, rfl, hg303, hE.keep trivial, hI, hR298⟩
    obtain ⟨stp312, hF, hO301⟩ := forL_step hO301; obtain ⟨hx318, hd317, hlt319⟩ := drop_cons hd317; unfold schema_predicate_shape.b0 at hF; refine c_seq ?_; refine c_reg ?_; refine run tt_ok 1 hE rfl fun a hE => ?_
    refine c_end ?_; refine xT ?_; refine c_seq ?_; have hE := hE.tr (t := 103) rfl (decide_eq_true (by omega)); refine c_true hE rfl ?_; refine c_skip ?_; refine xT ?_; refine c_seq ?_; refine c_block ?_; refine c_seq ?_
    refine c_reg ?_; obtain ⟨b328, o329, cs, hb338, hR331, hA330⟩ := sl_at (h13.mono ((hg24.trans hg186).trans hg303)) (Int.natCast_nonneg _) (natIdx hx318)
    obtain ⟨A332, c333, A335, c336, rfl, h334, h337⟩ := TExpr.inv.1 hR331; refine s_rt hI hE rfl (f_idx tt_ok hb338 rfl rfl rfl) rfl fun a hE => ?_
    refine s_rt hI hE rfl (f_loadG tt_ok hA330 0 rfl rfl rfl rfl) rfl fun a hE => ?_; refine s_alloc hI hE rfl z_117 rfl rfl fun a w b339 hE hI => ?_
    refine s_storeB tt_ok 0 hI hE rfl rfl rfl rfl rfl rfl rfl rfl rfl rfl fun a w hE hI => ?_; refine c_end ?_; refine xT ?_; refine c_seq ?_; refine c_reg ?_; refine run tt_ok 1 hE rfl fun a hE => ?_
    refine s_rt hI hE rfl (f_loadB tt_ok 0 rfl rfl rfl rfl) rfl fun a hE => ?_; refine run tt_ok 2 hE rfl fun a hE => ?_; have hI := hI.pick [1, 2, 0] (by decide) rfl; obtain ⟨y348, hy349, hF⟩ := bd hF
    refine s_callM [.blk b1 [.string p0.table_, .map A2, u4, .slice A295 s299.length c296] 165, .row (.slice A295 s299.length c296) 3 1 s299.length cs297] [.blk b339 [.int .i64 x315.Kind, .int .i64 x315.N, .string x315.S, .string x315.T, .slice A332 x315.Kids.length c333, .slice A335 x315.Q.length c336] 117] cl_107 hI hE rfl rfl (fun hIp => hs_schema_predicate_shape _ _ _ _ hy349 _ _ _ _ _ _ _ _ _ _ hIp (h3.mono ((hg24.trans hg186).trans hg303)) hR298 (TExpr.inv.2 ⟨A332, c333, A335, c336, rfl, h334, h337⟩)) rfl ?_; clear hE hI
    rintro a w _ G351 _ ⟨A353, c354, cs355, rfl, rfl, hR356⟩ hg350 hI hE; refine run tt_ok 1 hE rfl fun a hE => ?_; refine c_end ?_; refine xT ?_; refine c_if (b := !y348.1) hE rfl (fun hb357 => ?_) (fun hb357 => ?_)
    · replace hF := ct hb357 hF; refine c_seq ?_; refine c_reg ?_; refine run tt_ok 1 hE rfl fun a hE => ?_; refine c_end ?_; refine xT ?_; refine c_ret ?_; refine xBr ?_; refine xTr ?_; refine xTr ?_; refine xBr ?_
      refine xTr ?_; refine xTr ?_; cases hF; obtain rfl := nxt_ret hO301; have hF := lrk_ret hK302; cases hF; refine r_ret (v := _) hE rfl ⟨_, _, _, rfl, (hI.pick [0, 1] (by decide) rfl), A353, c354, cs355, rfl, rfl, hR356⟩
    replace hF := cf hb357 hF; refine c_skip ?_; refine xB ?_; refine xT ?_; refine c_reg ?_; refine run tt_ok 2 hE rfl fun a hE => ?_; refine c_end ?_; refine xT ?_; cases hF
    have hE := hE.setI (t := 102) rfl (w64_succ hlt319 (len_le h13))
    exact ⟨rest316.length, Nat.lt_succ_self _, i314 + 1, rest316, _, G351, A353, c354, cs355, rfl, hlt319, hd317, hO301, (hg303.trans hg350), hE.keep ⟨rfl, rfl, rfl, rfl, rfl, trivial⟩, (hI.pick [0, 1] (by decide) rfl), hR356⟩
  refine c_block ?_; refine c_seq ?_; refine c_block ?_; refine c_seq ?_
  refine c_cut (fun a' w' => ∃ (m434 : Int), schema_predicate_shape.j2 k s_schema_predicate_shape p1 p0 p2 m434 = some r ∧ ∃ (G432 : GH), G21.le G432 ∧ Env a' 113 [(0, .pointer (some ⟨b1, 0, none⟩)), (2, .int .i64 p2), (4, .pointer (some ⟨b19, 0, none⟩)), (7, .int .i64 m434)] ∧ Inv w0 G0 D0 G432 [.blk b19 [.int .i64 p1.Kind, .int .i64 p1.N, .string p1.S, .string p1.T, .slice A11 p1.Kids.length c12, .slice A14 p1.Q.length c15] 117, .blk b1 [.string p0.table_, .map A2, u4, .slice A7 p0.used_.length c8] 165, .row (.slice A7 p0.used_.length c8) 3 1 p0.used_.length cs9] w') ?_ ?_
  rotate_left
  · clear hE hI hF; rintro a w ⟨m434, hF, G432, hg435, hE, hI⟩; unfold schema_predicate_shape.j2 at hF; refine xT ?_; refine c_seq ?_; refine c_reg ?_; refine run tt_ok 3 hE rfl fun a hE => ?_; refine c_end ?_; refine xT ?_
    refine c_exit ?_; refine xBm rfl ?_; refine xTe ?_; refine xBh ?_; refine xT ?_; exact ⟨_, hF, G432, A7, c8, cs9, hg435, hE.keep ⟨rfl, rfl, rfl, rfl, trivial⟩, hI, (hR10.mono (hg24.trans hg435))⟩
  refine c_block ?_; refine c_seq ?_; refine c_block ?_; refine c_seq ?_; refine c_block ?_; refine c_seq ?_; refine c_block ?_; refine c_seq ?_; refine c_block ?_; refine c_seq ?_; refine c_block ?_; refine c_seq ?_
  refine c_block ?_; refine c_seq ?_; refine c_seq ?_; refine c_seq ?_; refine c_reg ?_; refine run tt_ok 2 hE rfl fun a hE => ?_; refine c_end ?_; refine xT ?_
  refine c_if (b := decide (p1.Kind = (2 : Int))) hE rfl (fun hb509 => ?_) (fun hb509 => ?_)
  · replace hF := ct hb509 hF; refine c_exit ?_; refine xTe ?_; refine xTe ?_; refine xBh ?_; refine xT ?_; refine c_seq ?_; refine c_seq ?_; obtain ⟨m441, hF, hR443⟩ := bd hF
    refine c_cut (fun a' w' => ∃ (G439 : GH), G21.le G439 ∧ Env a' 113 [(0, .pointer (some ⟨b1, 0, none⟩)), (2, .int .i64 p2), (4, .pointer (some ⟨b19, 0, none⟩)), (7, .int .i64 (0 : Int)), (45, .bool m441)] ∧ Inv w0 G0 D0 G439 [.blk b19 [.int .i64 p1.Kind, .int .i64 p1.N, .string p1.S, .string p1.T, .slice A11 p1.Kids.length c12, .slice A14 p1.Q.length c15] 117, .blk b1 [.string p0.table_, .map A2, u4, .slice A7 p0.used_.length c8] 165, .row (.slice A7 p0.used_.length c8) 3 1 p0.used_.length cs9] w') ?_ ?_
    · refine c_reg ?_; refine run tt_ok 1 hE rfl fun a hE => ?_; refine s_rt hI hE rfl (f_loadB tt_ok 0 rfl rfl rfl rfl) rfl fun a hE => ?_; refine run tt_ok 2 hE rfl fun a hE => ?_
      rcases bool_or (decide (p1.N < (0 : Int))) with hb445 | hb445
      · replace hF := ct hb445 hF; have hE := hE.tr (t := 41) rfl hb445; clear hb445; refine run tt_ok 4 hE rfl fun a hE => ?_; refine c_end ?_; refine xT ?_; cases hF
        exact ⟨G21, (GH.le.refl _), hE.keep ⟨rfl, rfl, rfl, rfl, rfl, trivial⟩, hI⟩
      replace hF := cf hb445 hF; have hE := hE.tr (t := 41) rfl hb445; clear hb445; refine run tt_ok 1 hE rfl fun a hE => ?_; refine s_rt hI hE rfl (f_loadB tt_ok 0 rfl rfl rfl rfl) rfl fun a hE => ?_
      refine run tt_ok 2 hE rfl fun a hE => ?_; refine c_end ?_; refine xT ?_; cases hF; exact ⟨G21, (GH.le.refl _), hE.keep ⟨rfl, rfl, rfl, rfl, rfl, trivial⟩, hI⟩
    clear hE hI; rintro a w ⟨G439, hg442, hE, hI⟩; clear hF; have hF := hR443; clear hR443; refine xT ?_; refine c_if (b := m441) hE rfl (fun hb444 => ?_) (fun hb444 => ?_); rotate_left
    · replace hF := cf hb444 hF; refine c_skip ?_; refine xT ?_; refine c_exit ?_; refine xBm rfl ?_; refine xTe ?_; refine xBm rfl ?_; refine xTe ?_; refine xBm rfl ?_; refine xTe ?_; refine xBm rfl ?_; refine xTe ?_
      refine xBm rfl ?_; refine xTe ?_; refine xBm rfl ?_; refine xTe ?_; refine xTe ?_; refine xBm rfl ?_; refine xTe ?_; refine xBh ?_; refine xT ?_
      exact ⟨_, hF, G439, A7, c8, cs9, hg442, hE.keep ⟨rfl, rfl, rfl, rfl, trivial⟩, hI, (hR10.mono (hg24.trans hg442))⟩
    replace hF := ct hb444 hF; refine c_seq ?_; refine c_reg ?_; refine run tt_ok 1 hE rfl fun a hE => ?_; refine c_end ?_; refine xT ?_; refine c_ret ?_; refine xTr ?_; refine xBr ?_; refine xTr ?_; refine xBr ?_
    refine xTr ?_; refine xBr ?_; refine xTr ?_; refine xBr ?_; refine xTr ?_; refine xBr ?_; refine xTr ?_; refine xBr ?_; refine xTr ?_; refine xTr ?_; refine xBr ?_; refine xTr ?_; refine xBr ?_; refine xTr ?_
    refine xTr ?_; cases hF; refine r_ret (v := _) hE rfl ⟨_, _, _, rfl, (hI.pick [1, 2] (by decide) rfl), A7, c8, cs9, rfl, rfl, (hR10.mono (hg24.trans hg442))⟩
  replace hF := cf hb509 hF; refine c_skip ?_; refine xT ?_; refine c_seq ?_; refine c_seq ?_; refine c_reg ?_; refine run tt_ok 2 hE rfl fun a hE => ?_; refine c_end ?_; refine xT ?_
  refine c_if (b := decide (p1.Kind = (4 : Int))) hE rfl (fun hb508 => ?_) (fun hb508 => ?_)
  · replace hF := ct hb508 hF; refine c_exit ?_; refine xTe ?_; refine xTe ?_; refine xBm rfl ?_; refine xTe ?_; refine xBh ?_; refine xT ?_; refine c_seq ?_; refine c_seq ?_; refine c_reg ?_
    refine run tt_ok 1 hE rfl fun a hE => ?_; refine s_rt hI hE rfl (f_loadB tt_ok 0 rfl rfl rfl rfl) rfl fun a hE => ?_; refine run tt_ok 2 hE rfl fun a hE => ?_; refine c_end ?_; refine xT ?_
    refine c_if (b := decide ((1000 : Int) < (p1.S.size : Int))) hE rfl (fun hb447 => ?_) (fun hb447 => ?_); rotate_left
    · replace hF := cf hb447 hF; refine c_skip ?_; refine xT ?_; refine c_exit ?_; refine xBm rfl ?_; refine xTe ?_; refine xBm rfl ?_; refine xTe ?_; refine xBm rfl ?_; refine xTe ?_; refine xBm rfl ?_; refine xTe ?_
      refine xBm rfl ?_; refine xTe ?_; refine xTe ?_; refine xBm rfl ?_; refine xTe ?_; refine xBh ?_; refine xT ?_; exact ⟨_, hF, G21, A7, c8, cs9, (GH.le.refl _), hE.keep ⟨rfl, rfl, rfl, rfl, trivial⟩, hI, (hR10.mono hg24)⟩
    replace hF := ct hb447 hF; refine c_seq ?_; refine c_reg ?_; refine run tt_ok 1 hE rfl fun a hE => ?_; refine c_end ?_; refine xT ?_; refine c_ret ?_; refine xTr ?_; refine xBr ?_; refine xTr ?_; refine xBr ?_
    refine xTr ?_; refine xBr ?_; refine xTr ?_; refine xBr ?_; refine xTr ?_; refine xBr ?_; refine xTr ?_; refine xTr ?_; refine xBr ?_; refine xTr ?_; refine xBr ?_; refine xTr ?_; refine xTr ?_; cases hF
    refine r_ret (v := _) hE rfl ⟨_, _, _, rfl, (hI.pick [1, 2] (by decide) rfl), A7, c8, cs9, rfl, rfl, (hR10.mono hg24)⟩
  replace hF := cf hb508 hF; refine c_skip ?_; refine xT ?_; refine c_seq ?_; refine c_seq ?_; refine c_seq ?_; refine c_reg ?_; refine run tt_ok 2 hE rfl fun a hE => ?_; refine c_end ?_; refine xT ?_
  obtain ⟨m451, hF, hR453⟩ := bd hF
  refine c_cut (fun a' w' => ∃ (G449 : GH), G21.le G449 ∧ Env a' 113 [(0, .pointer (some ⟨b1, 0, none⟩)), (2, .int .i64 p2), (4, .pointer (some ⟨b19, 0, none⟩)), (7, .int .i64 (0 : Int)), (21, .int .i64 p1.Kind), (26, .bool m451)] ∧ Inv w0 G0 D0 G449 [.blk b19 [.int .i64 p1.Kind, .int .i64 p1.N, .string p1.S, .string p1.T, .slice A11 p1.Kids.length c12, .slice A14 p1.Q.length c15] 117, .blk b1 [.string p0.table_, .map A2, u4, .slice A7 p0.used_.length c8] 165, .row (.slice A7 p0.used_.length c8) 3 1 p0.used_.length cs9] w') ?_ ?_
  · refine c_if (b := decide (p1.Kind = (1 : Int))) hE rfl (fun hb507 => ?_) (fun hb507 => ?_)
    · replace hF := ct hb507 hF; refine c_skip ?_; refine xT ?_; cases hF; exact ⟨G21, (GH.le.refl _), hE.keep ⟨rfl, rfl, rfl, rfl, rfl, rfl, trivial⟩, hI⟩
    replace hF := cf hb507 hF; refine c_reg ?_; refine run tt_ok 2 hE rfl fun a hE => ?_; refine c_end ?_; refine xT ?_; cases hF; exact ⟨G21, (GH.le.refl _), hE.keep ⟨rfl, rfl, rfl, rfl, rfl, rfl, trivial⟩, hI⟩
  clear hE hI; rintro a w ⟨G449, hg452, hE, hI⟩; clear hF; have hF := hR453; clear hR453; refine xT ?_; refine c_if (b := m451) hE rfl (fun hb506 => ?_) (fun hb506 => ?_)
  · replace hF := ct hb506 hF; refine c_exit ?_; refine xTe ?_; refine xTe ?_; refine xBm rfl ?_; refine xTe ?_; refine xBm rfl ?_; refine xTe ?_; refine xBh ?_; refine xT ?_; refine c_exit ?_; refine xBm rfl ?_
    refine xTe ?_; refine xBm rfl ?_; refine xTe ?_; refine xBm rfl ?_; refine xTe ?_; refine xBm rfl ?_; refine xTe ?_; refine xTe ?_; refine xBm rfl ?_; refine xTe ?_; refine xBh ?_; refine xT ?_
    exact ⟨_, hF, G449, A7, c8, cs9, hg452, hE.keep ⟨rfl, rfl, rfl, rfl, trivial⟩, hI, (hR10.mono (hg24.trans hg452))⟩
  replace hF := cf hb506 hF; refine c_skip ?_; refine xT ?_; refine c_seq ?_; refine c_seq ?_; refine c_reg ?_; refine run tt_ok 2 hE rfl fun a hE => ?_; refine c_end ?_; refine xT ?_
  refine c_if (b := decide (p1.Kind = (5 : Int))) hE rfl (fun hb505 => ?_) (fun hb505 => ?_); rotate_left
  · replace hF := cf hb505 hF; refine c_skip ?_; refine xT ?_; refine c_seq ?_; refine c_seq ?_; refine c_reg ?_; refine run tt_ok 2 hE rfl fun a hE => ?_; refine c_end ?_; refine xT ?_
    refine c_if (b := decide (p1.Kind = (11 : Int))) hE rfl (fun hb504 => ?_) (fun hb504 => ?_)
    · replace hF := ct hb504 hF; refine c_exit ?_; refine xTe ?_; refine xTe ?_; refine xBm rfl ?_; refine xTe ?_; refine xBm rfl ?_; refine xTe ?_; refine xBm rfl ?_; refine xTe ?_; refine xBm rfl ?_; refine xTe ?_
      refine xBh ?_; refine xT ?_; refine c_seq ?_; refine c_reg ?_; refine run tt_ok 1 hE rfl fun a hE => ?_; refine c_end ?_; refine xT ?_; refine c_exit ?_; refine xBm rfl ?_; refine xTe ?_; refine xBm rfl ?_; refine xTe ?_
      refine xTe ?_; refine xBm rfl ?_; refine xTe ?_; refine xBh ?_; refine xT ?_; exact ⟨_, hF, G449, A7, c8, cs9, hg452, hE.keep ⟨rfl, rfl, rfl, rfl, trivial⟩, hI, (hR10.mono (hg24.trans hg452))⟩
    replace hF := cf hb504 hF; refine c_skip ?_; refine xT ?_; refine c_seq ?_; refine c_seq ?_; refine c_reg ?_; refine run tt_ok 2 hE rfl fun a hE => ?_; refine c_end ?_; refine xT ?_
    refine c_if (b := decide (p1.Kind = (10 : Int))) hE rfl (fun hb503 => ?_) (fun hb503 => ?_)
    · replace hF := ct hb503 hF; refine c_exit ?_; refine xTe ?_; refine xTe ?_; refine xBm rfl ?_; refine xTe ?_; refine xBm rfl ?_; refine xTe ?_; refine xBm rfl ?_; refine xTe ?_; refine xBm rfl ?_; refine xTe ?_
      refine xBm rfl ?_; refine xTe ?_; refine xBh ?_; refine xT ?_; refine c_seq ?_; refine c_seq ?_; refine c_reg ?_; refine run tt_ok 1 hE rfl fun a hE => ?_
      refine s_rt hI hE rfl (f_loadB tt_ok 0 rfl rfl rfl rfl) rfl fun a hE => ?_; obtain ⟨y490, hy491, hF⟩ := bd hF; refine s_call0 cl_120 hI hE rfl rfl ((schema_total.ok k) _ _ hy491 _ _  hI.pass0 ) rfl ?_; clear hE hI
      rintro a w _ G493 _ ⟨rfl, rfl⟩ hg492 hI hE; refine run tt_ok 1 hE rfl fun a hE => ?_; refine c_end ?_; refine xT ?_; refine c_if (b := !y490) hE rfl (fun hb494 => ?_) (fun hb494 => ?_); rotate_left
      · replace hF := cf hb494 hF; refine c_skip ?_; refine xT ?_; refine c_reg ?_; refine run tt_ok 3 hE rfl fun a hE => ?_; refine c_end ?_; refine xB ?_; refine xT ?_
        exact ⟨_, hF, G493, (hg452.trans hg492), hE.keep ⟨rfl, rfl, rfl, rfl, trivial⟩, hI⟩
      replace hF := ct hb494 hF; refine c_seq ?_; refine c_reg ?_; refine run tt_ok 1 hE rfl fun a hE => ?_; refine c_end ?_; refine xT ?_; refine c_ret ?_; refine xTr ?_; refine xBr ?_; refine xTr ?_; refine xTr ?_
      refine xBr ?_; refine xTr ?_; refine xBr ?_; refine xTr ?_; refine xTr ?_; cases hF
      refine r_ret (v := _) hE rfl ⟨_, _, _, rfl, (hI.pick [1, 2] (by decide) rfl), A7, c8, cs9, rfl, rfl, (hR10.mono ((hg24.trans hg452).trans hg492))⟩
    replace hF := cf hb503 hF; refine c_skip ?_; refine xT ?_; refine c_seq ?_; refine c_seq ?_; refine c_reg ?_; refine run tt_ok 2 hE rfl fun a hE => ?_; refine c_end ?_; refine xT ?_; obtain ⟨m498, hF, hR500⟩ := bd hF
    refine c_cut (fun a' w' => ∃ (G496 : GH), G449.le G496 ∧ Env a' 113 [(0, .pointer (some ⟨b1, 0, none⟩)), (2, .int .i64 p2), (4, .pointer (some ⟨b19, 0, none⟩)), (7, .int .i64 (0 : Int)), (35, .bool m498)] ∧ Inv w0 G0 D0 G496 [.blk b19 [.int .i64 p1.Kind, .int .i64 p1.N, .string p1.S, .string p1.T, .slice A11 p1.Kids.length c12, .slice A14 p1.Q.length c15] 117, .blk b1 [.string p0.table_, .map A2, u4, .slice A7 p0.used_.length c8] 165, .row (.slice A7 p0.used_.length c8) 3 1 p0.used_.length cs9] w') ?_ ?_
    · refine c_if (b := decide (p1.Kind = (8 : Int))) hE rfl (fun hb502 => ?_) (fun hb502 => ?_)
      · replace hF := ct hb502 hF; refine c_skip ?_; refine xT ?_; cases hF; exact ⟨G449, (GH.le.refl _), hE.keep ⟨rfl, rfl, rfl, rfl, rfl, trivial⟩, hI⟩
      replace hF := cf hb502 hF; refine c_reg ?_; refine run tt_ok 2 hE rfl fun a hE => ?_; refine c_end ?_; refine xT ?_; cases hF; exact ⟨G449, (GH.le.refl _), hE.keep ⟨rfl, rfl, rfl, rfl, rfl, trivial⟩, hI⟩
    clear hE hI; rintro a w ⟨G496, hg499, hE, hI⟩; clear hF; have hF := hR500; clear hR500; refine xT ?_; refine c_if (b := m498) hE rfl (fun hb501 => ?_) (fun hb501 => ?_)
    · replace hF := ct hb501 hF; refine c_exit ?_; refine xTe ?_; refine xBm rfl ?_; refine xTe ?_; refine xBm rfl ?_; refine xTe ?_; refine xBm rfl ?_; refine xTe ?_; refine xBm rfl ?_; refine xTe ?_; refine xBm rfl ?_
      refine xTe ?_; refine xBm rfl ?_; refine xTe ?_; refine xBh ?_; refine xT ?_; exact ⟨_, hF, G496, (hg452.trans hg499), hE.keep ⟨rfl, rfl, rfl, rfl, trivial⟩, hI⟩
    replace hF := cf hb501 hF; refine c_skip ?_; refine xT ?_; refine c_exit ?_; refine xBm rfl ?_; refine xTe ?_; refine xBm rfl ?_; refine xTe ?_; refine xBm rfl ?_; refine xTe ?_; refine xBm rfl ?_; refine xTe ?_
    refine xBm rfl ?_; refine xTe ?_; refine xBm rfl ?_; refine xTe ?_; refine xBm rfl ?_; refine xTe ?_; refine xTe ?_; refine xBh ?_; refine xT ?_; refine c_seq ?_; refine c_seq ?_; refine c_reg ?_
    refine run tt_ok 1 hE rfl fun a hE => ?_; refine c_end ?_; refine xT ?_; refine c_ret ?_; refine xTr ?_; refine xBr ?_; refine xTr ?_; refine xTr ?_; cases hF
    refine r_ret (v := _) hE rfl ⟨_, _, _, rfl, (hI.pick [1, 2] (by decide) rfl), A7, c8, cs9, rfl, rfl, (hR10.mono ((hg24.trans hg452).trans hg499))⟩
  replace hF := ct hb505 hF; refine c_exit ?_; refine xTe ?_; refine xTe ?_; refine xBm rfl ?_; refine xTe ?_; refine xBm rfl ?_; refine xTe ?_; refine xBm rfl ?_; refine xTe ?_; refine xBh ?_; refine xT ?_; refine c_seq ?_
  refine c_seq ?_; refine c_draw mixed (by kernel_rfl) hI ?_; clear hI; refine runq tt_ok 3 hE rfl fun a hE => ?_; refine q_rt hE rfl (f_loadB tt_ok 1 rfl rfl rfl rfl) rfl fun a hE => ?_
  refine runq tt_ok 1 hE rfl fun a hE => ?_; refine q_rt hE rfl (f_loadB tt_ok 0 rfl rfl rfl rfl) rfl fun a hE => ?_
  obtain ⟨c457, u458, hr459, hu460, hrt461⟩ := f_lookG key_str (h3.mono (hg24.trans hg452)) um_73 uk_9 true hE (L := [.blk b19 [.int .i64 p1.Kind, .int .i64 p1.N, .string p1.S, .string p1.T, .slice A11 p1.Kids.length c12, .slice A14 p1.Q.length c15] 117, .blk b1 [.string p0.table_, .map A2, u4, .slice A7 p0.used_.length c8] 165, .row (.slice A7 p0.used_.length c8) 3 1 p0.used_.length cs9]) (x := .tmp 54) (y := .tmp 56) rfl rfl z_3 (rep_int.2 rfl) rfl
  obtain rfl : c457 = [u458] := hu460; obtain rfl := rep1_int.1 hr459; refine q_rt hE rfl (hrt461 _ _ _) rfl fun a hE => ?_; refine runq tt_ok 5 hE rfl fun a hE => ?_; refine q_end ?_; intro w hI; refine xT ?_
  refine c_seq ?_; refine c_seq ?_; obtain ⟨m466, hF, hR468⟩ := bd hF
  refine c_cut (fun a' w' => ∃ (G464 : GH), G449.le G464 ∧ Env a' 113 [(0, .pointer (some ⟨b1, 0, none⟩)), (2, .int .i64 p2), (4, .pointer (some ⟨b19, 0, none⟩)), (7, .int .i64 (0 : Int)), (8, .int .i64 ((mget p0.cols_ p1.S).getD (0 : Int))), (75, .bool m466)] ∧ Inv w0 G0 D0 G464 [.blk b19 [.int .i64 p1.Kind, .int .i64 p1.N, .string p1.S, .string p1.T, .slice A11 p1.Kids.length c12, .slice A14 p1.Q.length c15] 117, .blk b1 [.string p0.table_, .map A2, u4, .slice A7 p0.used_.length c8] 165, .row (.slice A7 p0.used_.length c8) 3 1 p0.used_.length cs9] w') ?_ ?_
  · refine c_draw mixed (by kernel_rfl) hI ?_; clear hI; refine runq tt_ok 3 hE rfl fun a hE => ?_; rcases bool_or (!((mget p0.cols_ p1.S).isSome)) with hb486 | hb486
    · replace hF := ct hb486 hF; have hE := hE.tr (t := 62) rfl hb486; clear hb486; refine runq tt_ok 13 hE rfl fun a hE => ?_; refine q_end ?_; intro w hI; refine xT ?_; cases hF
      exact ⟨G449, (GH.le.refl _), hE.keep ⟨rfl, rfl, rfl, rfl, rfl, rfl, trivial⟩, hI⟩
    replace hF := cf hb486 hF; have hE := hE.tr (t := 62) rfl hb486; clear hb486; refine runq tt_ok 1 hE rfl fun a hE => ?_; refine q_rt hE rfl (f_loadB tt_ok 0 rfl rfl rfl rfl) rfl fun a hE => ?_
    refine runq tt_ok 2 hE rfl fun a hE => ?_; rcases bool_or (!decide (p1.T = (⟨#[]⟩ : ByteArray))) with hb487 | hb487; rotate_left
    · replace hF := cf hb487 hF; have hE := hE.tr (t := 66) rfl hb487; clear hb487; refine runq tt_ok 9 hE rfl fun a hE => ?_; refine q_end ?_; intro w hI; refine xT ?_; cases hF
      exact ⟨G449, (GH.le.refl _), hE.keep ⟨rfl, rfl, rfl, rfl, rfl, rfl, trivial⟩, hI⟩
    replace hF := ct hb487 hF; have hE := hE.tr (t := 66) rfl hb487; clear hb487; refine runq tt_ok 1 hE rfl fun a hE => ?_; refine q_rt hE rfl (f_loadB tt_ok 0 rfl rfl rfl rfl) rfl fun a hE => ?_
    refine runq tt_ok 3 hE rfl fun a hE => ?_; refine q_rt hE rfl (f_loadB tt_ok 1 rfl rfl rfl rfl) rfl fun a hE => ?_; refine runq tt_ok 3 hE rfl fun a hE => ?_; refine q_end ?_; intro w hI; refine xT ?_; cases hF
    exact ⟨G449, (GH.le.refl _), hE.keep ⟨rfl, rfl, rfl, rfl, rfl, rfl, trivial⟩, hI⟩
  clear hE hI; rintro a w ⟨G464, hg467, hE, hI⟩; clear hF; have hF := hR468; clear hR468; refine xT ?_; refine c_if (b := m466) hE rfl (fun hb485 => ?_) (fun hb485 => ?_)
  · replace hF := ct hb485 hF; refine c_seq ?_; refine c_reg ?_; refine run tt_ok 1 hE rfl fun a hE => ?_; refine c_end ?_; refine xT ?_; refine c_ret ?_; refine xTr ?_; refine xTr ?_; refine xBr ?_; refine xTr ?_
    refine xBr ?_; refine xTr ?_; refine xBr ?_; refine xTr ?_; refine xTr ?_; refine xBr ?_; refine xTr ?_; refine xBr ?_; refine xTr ?_; refine xTr ?_; cases hF
    refine r_ret (v := _) hE rfl ⟨_, _, _, rfl, (hI.pick [1, 2] (by decide) rfl), A7, c8, cs9, rfl, rfl, (hR10.mono ((hg24.trans hg452).trans hg467))⟩
  replace hF := cf hb485 hF; refine c_skip ?_; refine xT ?_; refine c_reg ?_; refine run tt_ok 4 hE rfl fun a hE => ?_; refine s_rt hI hE rfl (f_loadB tt_ok 1 rfl rfl rfl rfl) rfl fun a hE => ?_
  refine run tt_ok 1 hE rfl fun a hE => ?_; refine s_bsl ai_45 hI hE rfl rfl rfl rfl rfl fun a w b477 hE hI => ?_
  have hR479 : RL G464 1 ([((mget p0.cols_ p1.S).getD (0 : Int))].map (D.int .i64)) [.int .i64 ((mget p0.cols_ p1.S).getD (0 : Int))] := (RL.cons (rep_int.2 rfl) rfl RL.nil); obtain ⟨_, hb480, hF⟩ := bd hF
  refine s_appO (f := (D.int .i64)) (xs := p0.used_) (ys := [((mget p0.cols_ p1.S).getD (0 : Int))]) ai_45 3 0 hI hE rfl rfl rfl hR479 rfl rfl (lim_le hb480) rfl fun a w A481 c482 hE hI => ?_
  have hR484 := RL.appm (hR10.mono ((hg24.trans hg452).trans hg467)) hR479; refine run tt_ok 2 hE rfl fun a hE => ?_; refine s_storeB tt_ok 2 hI hE rfl rfl rfl rfl rfl rfl rfl rfl rfl rfl fun a w hE hI => ?_
  refine c_end ?_; refine xT ?_; refine c_exit ?_; refine xBm rfl ?_; refine xTe ?_; refine xBm rfl ?_; refine xTe ?_; refine xBm rfl ?_; refine xTe ?_; refine xTe ?_; refine xBm rfl ?_; refine xTe ?_; refine xBh ?_
  refine xT ?_; exact ⟨_, hF, G464, A481, c482, (cs9 ++ [.int .i64 ((mget p0.cols_ p1.S).getD (0 : Int))]), (hg452.trans hg467), hE.keep ⟨rfl, rfl, rfl, rfl, trivial⟩, (hI.dropN 1 rfl), hR484⟩

theorem schema_predicate_shape.ok_all : ∀ k, schema_predicate_shape.C (schema_predicate_shape k)
  | 0 => fun _ _ _ _ h => by cases h
  | k + 1 => by
    have h := schema_predicate_shape.ok_all k
    exact schema_predicate_shape.F_ok k (schema_predicate_shape k) h

theorem schema_predicate_shape.ok (k : Nat) : schema_predicate_shape.C (schema_predicate_shape k) := (schema_predicate_shape.ok_all k)

theorem cl_122 : Callable Try.prog 122 := ⟨_, Try.func122, by kernel_rfl, by kernel_rfl⟩

def schema_logical.C (s : Int → Option Bool) : Prop := ∀ (p0 : Int) (r : Bool), s p0 = some r → ∀ (w0 : World) (G0 : GH) , Inv w0 G0 [] G0 [] w0 → Calls Try.prog 122 #[.int .i64 p0] w0 (Ret w0 G0 [] fun G' L' v => L' = [] ∧ v = .bool r)

theorem schema_logical.ok (k : Nat) : schema_logical.C (schema_logical k) := by
  intro p0 r hF w0 G0  hI 
  unfold schema_logical at hF
  refine calls_of_wp Try.func122 rfl ?_
  have hE : Env _ 9 [(0, .int .i64 p0)] := Env.start ⟨[.int .i64 p0]⟩ 8
  refine c_seq ?_; refine c_reg ?_; refine run tt_ok 1 hE rfl fun a hE => ?_; refine c_end ?_; refine xT ?_; refine c_seq ?_; obtain ⟨m4, hF, hR6⟩ := bd hF
  refine c_cut (fun a' w' => ∃ (G2 : GH), G0.le G2 ∧ Env a' 9 [(2, .bool m4)] ∧ Inv w0 G0 [] G2 [] w') ?_ ?_; rotate_left
  · clear hE hI; rintro a w ⟨G2, hg5, hE, hI⟩; clear hF; have hF := hR6; clear hR6; refine xT ?_; refine c_ret ?_; cases hF; refine r_ret (v := _) hE rfl ⟨_, _, _, rfl, hI.nil, rfl, rfl⟩
  refine c_reg ?_; refine run tt_ok 3 hE rfl fun a hE => ?_; rcases bool_or (decide (p0 = (1 : Int))) with hb7 | hb7
  · replace hF := ct hb7 hF; have hE := hE.tr (t := 5) rfl hb7; clear hb7; refine run tt_ok 4 hE rfl fun a hE => ?_; refine c_end ?_; refine xT ?_; cases hF; exact ⟨G0, (GH.le.refl _), hE.keep ⟨rfl, trivial⟩, hI⟩
  replace hF := cf hb7 hF; have hE := hE.tr (t := 5) rfl hb7; clear hb7; refine run tt_ok 4 hE rfl fun a hE => ?_; refine c_end ?_; refine xT ?_; cases hF; exact ⟨G0, (GH.le.refl _), hE.keep ⟨rfl, trivial⟩, hI⟩

theorem cl_123 : Callable Try.prog 123 := ⟨_, Try.func123, by kernel_rfl, by kernel_rfl⟩

def schema_one.C (s : Int → Int → Option Int) : Prop := ∀ (p0 : Int) (p1 : Int) (r : Int), s p0 p1 = some r → ∀ (w0 : World) (G0 : GH) , Inv w0 G0 [] G0 [] w0 → Calls Try.prog 123 #[.int .i64 p0, .int .i64 p1] w0 (Ret w0 G0 [] fun G' L' v => L' = [] ∧ v = .int .i64 r)
end Go.Proofs.Ytliaopbgkcdibaa
