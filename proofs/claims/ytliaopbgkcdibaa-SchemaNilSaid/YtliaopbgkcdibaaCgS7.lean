/- The contracts: what the machine does at a call is what the plain function says. Written by mk.py. -/
import Derived.Test.YtliaopbgkcdibaaCgS3
import Derived.Test.YtliaopbgkcdibaaCgS6
set_option linter.unusedVariables false
set_option linter.unusedSimpArgs false
set_option maxRecDepth 100000
namespace Go.Proofs.Ytliaopbgkcdibaa
open Go.RowKit
theorem schema_Catalog_named.ok (k : Nat) : schema_Catalog_named.C (schema_Catalog_named k) := by
  intro p0 p1 r hF w0 G0 D0 b1 A2 u4 u5 u6 u7 A8 c9 hI h3 h10
  unfold schema_Catalog_named at hF
  refine calls_of_wp Try.func85 rfl ?_
  have hE : Env _ 52 [(0, .pointer (some ⟨b1, 0, none⟩)), (1, .slice A8 p1.length c9)] := Env.start ⟨[.pointer (some ⟨b1, 0, none⟩), .slice A8 p1.length c9]⟩ 50
  refine c_seq ?_; refine c_reg ?_; refine run tt_ok 3 hE rfl fun a hE => ?_; refine c_end ?_; refine xT ?_; refine c_seq ?_; refine c_reg ?_; refine run tt_ok 1 hE rfl fun a hE => ?_; refine c_end ?_; refine xT ?_
  refine c_seq ?_; refine c_seq ?_; refine c_reg ?_; refine run tt_ok 3 hE rfl fun a hE => ?_; refine c_end ?_; refine xT ?_; have hI := hI.nilrow 120 2; have hR68 : RL G0 2 (([] : List TNamed).map TNamed.d) [] := RL.nil
  obtain ⟨o211, hO212, hK213⟩ := bd hF; clear hF
  refine c_cut (fun a' w' => ∃ (s215 : (List TNamed)) (G216 : GH) (A218 : Option Addr) (c219 : Nat) (cs220 : List Value), o211 = .go s215 ∧ G0.le G216 ∧ Env a' 52 [(7, .slice A218 s215.length c219)] ∧ Inv w0 G0 D0 G216 [.row (.slice A218 s215.length c219) 120 2 s215.length cs220, .blk b1 [.pointer A2, u4, u5, u6, u7, .int .i64 p0.limit_] 103] w' ∧ RL G216 2 (s215.map TNamed.d) cs220) ?_ ?_
  rotate_left
  · clear hE hI hO212; rintro a w ⟨s215, G216, A218, c219, cs220, rfl, hg222, hE, hI, hR221⟩; have hF := lrk_go hK213; clear hK213; refine xT ?_; refine c_seq ?_; refine c_reg ?_; refine run tt_ok 4 hE rfl fun a hE => ?_
    refine c_end ?_; refine xT ?_; obtain ⟨G223, hg224, hI, h225⟩ := (hI.front 0).giveR (xs := s215.map TNamed.d) (by simp) hR221; refine c_ret ?_; cases hF
    refine r_ret (v := _) hE rfl ⟨_, _, _, rfl, hI, A218, c219, rfl, rfl, h225⟩
  refine c_block ?_
  refine wp_loop_ghost (fun n' a' w' => ∃ (i228 : Nat) (rest230 : List TPair) (s210 : (List TNamed)) (G204 : GH) (A206 : Option Addr) (c207 : Nat) (cs208 : List Value), n' = rest230.length ∧ i228 ≤ p1.length ∧ p1.drop i228 = rest230 ∧ forL (schema_Catalog_named.b0 k p0) i228 rest230 s210 = some o211 ∧ G0.le G204 ∧ Env a' 52 [(14, .int .i64 (i228 : Int)), (0, .pointer (some ⟨b1, 0, none⟩)), (7, .slice A206 s210.length c207), (12, .slice A8 p1.length c9), (13, .int .i64 (p1.length : Int))] ∧ Inv w0 G0 D0 G204 [.row (.slice A206 s210.length c207) 120 2 s210.length cs208, .blk b1 [.pointer A2, u4, u5, u6, u7, .int .i64 p0.limit_] 103] w' ∧ RL G204 2 (s210.map TNamed.d) cs208) _ ⟨0, _, _, G0, none, 0, [], rfl, Nat.zero_le _, rfl, hO212, (GH.le.refl _), hE.keep ⟨rfl, rfl, rfl, rfl, rfl, trivial⟩, hI, hR68⟩ ?_
  clear hE hI hO212; rintro m227 a w ⟨i228, rest230, s210, G204, A206, c207, cs208, rfl, hi234, hd231, hO212, hg214, hE, hI, hR209⟩; rcases rest230 with _ | ⟨x229, rest230⟩
  · obtain rfl := forL_nil hO212; have hlt233 := drop_nil hd231 hi234; clear hd231; refine c_seq ?_; refine c_reg ?_; refine run tt_ok 1 hE rfl fun a hE => ?_; refine c_end ?_; refine xT ?_; refine c_seq ?_
    have hE := hE.tr (t := 15) rfl (decide_eq_false (by omega)); refine c_false hE rfl ?_; refine c_exit ?_; refine xTe ?_; refine xTe ?_; refine xBh ?_; refine xT ?_
    exact ⟨_, G204, A206, c207, cs208, rfl, hg214, hE.keep ⟨rfl, trivial⟩, hI, hR209⟩
  obtain ⟨stp226, hF, hO212⟩ := forL_step hO212; obtain ⟨hx232, hd231, hlt233⟩ := drop_cons hd231; unfold schema_Catalog_named.b0 at hF; refine c_seq ?_; refine c_reg ?_; refine run tt_ok 1 hE rfl fun a hE => ?_
  refine c_end ?_; refine xT ?_; refine c_seq ?_; have hE := hE.tr (t := 15) rfl (decide_eq_true (by omega)); refine c_true hE rfl ?_; refine c_skip ?_; refine xT ?_; refine c_seq ?_; refine c_block ?_; refine c_seq ?_
  refine c_reg ?_; refine run tt_ok 1 hE rfl fun a hE => ?_; obtain ⟨b236, o237, cs, hb240, hR239, hA238⟩ := sl_at (h10.mono hg214) (Int.natCast_nonneg _) (natIdx hx232); obtain rfl := TPair.inv.1 hR239
  refine s_rt hI hE rfl (f_idx tt_ok hb240 rfl rfl rfl) rfl fun a hE => ?_; refine s_rt hI hE rfl (f_loadG tt_ok hA238 0 rfl rfl rfl rfl) rfl fun a hE => ?_; refine s_alloc hI hE rfl z_27 rfl rfl fun a w b241 hE hI => ?_
  refine run tt_ok 1 hE rfl fun a hE => ?_; refine s_storeB tt_ok 0 hI hE rfl rfl rfl rfl rfl rfl rfl rfl rfl rfl fun a w hE hI => ?_; refine c_end ?_; refine xT ?_; refine c_seq ?_
  refine c_draw mixed (by kernel_rfl) hI ?_; clear hI; refine runq tt_ok 3 hE rfl fun a hE => ?_; refine q_rt hE rfl (f_loadB tt_ok 2 rfl rfl rfl rfl) rfl fun a hE => ?_; refine runq tt_ok 1 hE rfl fun a hE => ?_
  refine q_rt hE rfl (f_loadB tt_ok 0 rfl rfl rfl rfl) rfl fun a hE => ?_; obtain ⟨y245, hy246, hF⟩ := bd hF
  refine q_call cl_19 hE rfl rfl (fun w hI => (lattice_Lattice_Find.ok k) _ _ _ hy246 _ _ _ hI.pass0 (h3.mono hg214)) (fun _ _ _ h => h.2) rfl fun a hE => ?_; refine runq tt_ok 5 hE rfl fun a hE => ?_
  refine q_end ?_; intro w hI; refine xT ?_; refine c_seq ?_; refine c_seq ?_; obtain ⟨m262, hF, hR264⟩ := bd hF
  refine c_cut (fun a' w' => ∃ (G260 : GH), G204.le G260 ∧ Env a' 52 [(0, .pointer (some ⟨b1, 0, none⟩)), (7, .slice A206 s210.length c207), (8, .int .i64 (i228 : Int)), (9, .pointer (some ⟨b241, 0, none⟩)), (10, .int .i64 y245.1), (12, .slice A8 p1.length c9), (13, .int .i64 (p1.length : Int)), (14, .int .i64 (i228 : Int)), (40, .bool m262)] ∧ Inv w0 G0 D0 G260 [.blk b241 [.string x229.Low, .string x229.High] 27, .row (.slice A206 s210.length c207) 120 2 s210.length cs208, .blk b1 [.pointer A2, u4, u5, u6, u7, .int .i64 p0.limit_] 103] w') ?_ ?_
  rotate_left
  · clear hE hI; rintro a w ⟨G260, hg263, hE, hI⟩; clear hF; have hF := hR264; clear hR264; refine xT ?_; refine c_if (b := m262) hE rfl (fun hb278 => ?_) (fun hb278 => ?_)
    · replace hF := ct hb278 hF; refine c_seq ?_; refine c_reg ?_; refine run tt_ok 5 hE rfl fun a hE => ?_; refine c_end ?_; refine xT ?_; refine c_ret ?_; refine xTr ?_; refine xBr ?_; refine xTr ?_; refine xTr ?_
      refine xBr ?_; refine xTr ?_; refine xTr ?_; cases hF; obtain rfl := nxt_ret hO212; have hF := lrk_ret hK213; cases hF
      refine r_ret (v := _) hE rfl ⟨_, _, _, rfl, (hI.pick [2] (by decide) rfl), none, 0, rfl, rfl, (Sl.nil _ _ _ _ (Nat.zero_le _))⟩
    replace hF := cf hb278 hF; refine c_skip ?_; refine xT ?_; refine c_reg ?_; refine run tt_ok 2 hE rfl fun a hE => ?_; refine s_rt hI hE rfl (f_loadB tt_ok 0 rfl rfl rfl rfl) rfl fun a hE => ?_
    refine run tt_ok 1 hE rfl fun a hE => ?_; refine s_rt hI hE rfl (f_build tt_ok rfl z_120 rfl rfl) rfl fun a hE => ?_; refine s_bsl ai_67 hI hE rfl rfl rfl rfl rfl fun a w b270 hE hI => ?_
    have hR272 : RL G260 2 ([(TNamed.mk x229.Low y245.1)].map TNamed.d) [.string x229.Low, .int .i64 y245.1] := (RL.cons (TNamed.inv.2 rfl) rfl RL.nil); obtain ⟨_, hb273, hF⟩ := bd hF
    refine s_appO (f := TNamed.d) (xs := s210) (ys := [(TNamed.mk x229.Low y245.1)]) ai_67 2 0 hI hE rfl rfl rfl hR272 rfl rfl (lim_le hb273) rfl fun a w A274 c275 hE hI => ?_; have hR277 := RL.appm (hR209.mono hg263) hR272
    refine run tt_ok 1 hE rfl fun a hE => ?_; refine c_end ?_; refine xB ?_; refine xT ?_; refine c_reg ?_; refine run tt_ok 2 hE rfl fun a hE => ?_; refine c_end ?_; refine xT ?_; cases hF
    have hE := hE.setI (t := 14) rfl (w64_succ hlt233 (len_le h10))
    exact ⟨rest230.length, Nat.lt_succ_self _, i228 + 1, rest230, _, G260, A274, c275, (cs208 ++ [.string x229.Low, .int .i64 y245.1]), rfl, hlt233, hd231, hO212, (hg214.trans hg263), hE.keep ⟨rfl, rfl, rfl, rfl, rfl, trivial⟩, (hI.dropN 2 rfl), hR277⟩
  refine c_reg ?_; refine run tt_ok 3 hE rfl fun a hE => ?_; rcases bool_or (!y245.2) with hb279 | hb279
  · replace hF := ct hb279 hF; have hE := hE.tr (t := 31) rfl hb279; clear hb279; refine run tt_ok 9 hE rfl fun a hE => ?_; refine c_end ?_; refine xT ?_; cases hF
    exact ⟨G204, (GH.le.refl _), hE.keep ⟨rfl, rfl, rfl, rfl, rfl, rfl, rfl, rfl, rfl, trivial⟩, hI⟩
  replace hF := cf hb279 hF; have hE := hE.tr (t := 31) rfl hb279; clear hb279; refine run tt_ok 1 hE rfl fun a hE => ?_; refine s_rt hI hE rfl (f_loadB tt_ok 0 rfl rfl rfl rfl) rfl fun a hE => ?_
  refine run tt_ok 3 hE rfl fun a hE => ?_; rcases bool_or (decide (x229.Low = (⟨#[]⟩ : ByteArray))) with hb280 | hb280
  · replace hF := ct hb280 hF; have hE := hE.tr (t := 36) rfl hb280; clear hb280; refine run tt_ok 4 hE rfl fun a hE => ?_; refine c_end ?_; refine xT ?_; cases hF
    exact ⟨G204, (GH.le.refl _), hE.keep ⟨rfl, rfl, rfl, rfl, rfl, rfl, rfl, rfl, rfl, trivial⟩, hI⟩
  replace hF := cf hb280 hF; have hE := hE.tr (t := 36) rfl hb280; clear hb280; refine run tt_ok 1 hE rfl fun a hE => ?_; refine s_rt hI hE rfl (f_mkfn rfl) rfl fun a hE => ?_; obtain ⟨y281, hy282, hF⟩ := bd hF
  refine s_callL (S := fun _ L' u => L' = [] ∧ u = .bool y281) cl_97 hI hE rfl rfl (by obtain ⟨G284, hg285, hI, h286⟩ := (hI.front 1).giveR (xs := s210.map TNamed.d) (by simp) hR209; obtain ⟨G287, hg288, hI, hA289⟩ := (hI.front 0).giveB; have h290 : Pt G287 (some ⟨b241, 0, none⟩) 27 TPair.d (some x229) := Pt.mk (TPair.inv.2 rfl) hA289; exact ⟨_, (slices_ContainsFunc_api_Named_api_Named.ok k) _ _ _ hy282 _ _ _ _ _ hI.pass0 (h286.mono hg288) (by intro x0_ r_ hr_ w_ H_ cs1 hle_ hI_ hR2; exact ⟨98, [.pointer (some ⟨b241, 0, none⟩)], rfl, cl_98, (schema_Catalog_named_1.ok k) x0_ _ r_ hr_ w_ H_ _ _ hI_ hR2 (h290.mono hle_)⟩)⟩) (fun _ _ _ h => h.2) rfl ?_; clear hE hI; intro a w hI hE
  refine run tt_ok 1 hE rfl fun a hE => ?_; refine c_end ?_; refine xT ?_; cases hF; exact ⟨G204, (GH.le.refl _), hE.keep ⟨rfl, rfl, rfl, rfl, rfl, rfl, rfl, rfl, rfl, trivial⟩, hI⟩

theorem cl_75 : Callable Try.prog 75 := ⟨_, Try.func75, by kernel_rfl, by kernel_rfl⟩

def schema_New.C (s : TSchema → Option ((Option Tschema_Catalog) × Int × Int)) : Prop := ∀ (p0 : TSchema) (r : (Option Tschema_Catalog) × Int × Int), s p0 = some r → ∀ (w0 : World) (G0 : GH) (cs16 : List Value), Inv w0 G0 [] G0 [] w0 → (Rep G0 p0.d cs16) → Calls Try.prog 75 #[.agg ⟨cs16⟩] w0 (Ret w0 G0 [] fun G' L' v => L' = [] ∧ ∃ A0, v = .tuple ⟨[.pointer A0, .int .i64 r.2.1, .int .i64 r.2.2]⟩ ∧ Pt G' A0 103 Tschema_Catalog.d r.1)

theorem schema_New.ok (k : Nat) : schema_New.C (schema_New k) := by
  intro p0 r hF w0 G0 cs16 hI hR17
  unfold schema_New at hF
  obtain ⟨A1, c2, A4, c5, A7, c8, A10, c11, A13, c14, rfl, h3, h6, h9, h12, h15⟩ := TSchema.inv.1 hR17
  refine calls_of_wp Try.func75 rfl ?_
  have hE : Env _ 106 [(0, .agg ⟨[.slice A1 p0.Levels.length c2, .slice A4 p0.Edges.length c5, .slice A7 p0.Tables.length c8, .slice A10 p0.Channels.length c11, .slice A13 p0.Principals.length c14, .int .i64 p0.Limit]⟩)] := Env.start ⟨[.agg ⟨[.slice A1 p0.Levels.length c2, .slice A4 p0.Edges.length c5, .slice A7 p0.Tables.length c8, .slice A10 p0.Channels.length c11, .slice A13 p0.Principals.length c14, .int .i64 p0.Limit]⟩]⟩ 105
  refine c_seq ?_; refine c_reg ?_; refine s_box hI hE rfl rfl rfl rfl fun a w b18 hE hI => ?_; refine run tt_ok 3 hE rfl fun a hE => ?_; refine c_end ?_; refine xT ?_; refine c_seq ?_; refine c_reg ?_
  refine run tt_ok 1 hE rfl fun a hE => ?_; refine s_rt hI hE rfl (f_loadB tt_ok 0 rfl rfl rfl rfl) rfl fun a hE => ?_; refine run tt_ok 1 hE rfl fun a hE => ?_
  refine s_rt hI hE rfl (f_loadB tt_ok 0 rfl rfl rfl rfl) rfl fun a hE => ?_; obtain ⟨y31, hy32, hF⟩ := bd hF
  refine s_call0 cl_12 hI hE rfl rfl ((lattice_New.ok k) _ _ _ hy32 _ _ _ _ _ _ hI.pass0 h3 h6) rfl ?_; clear hE hI; rintro a w _ G34 _ ⟨rfl, A35, rfl, h36⟩ hg33 hI hE; refine run tt_ok 5 hE rfl fun a hE => ?_
  refine c_end ?_; refine xT ?_; refine c_seq ?_; refine c_seq ?_; refine c_reg ?_; refine run tt_ok 2 hE rfl fun a hE => ?_; refine c_end ?_; refine xT ?_
  refine c_if (b := !decide (y31.2 = (0 : Int))) hE rfl (fun hb402 => ?_) (fun hb402 => ?_)
  · replace hF := ct hb402 hF; refine c_seq ?_; refine c_reg ?_; refine run tt_ok 4 hE rfl fun a hE => ?_; refine c_end ?_; refine xT ?_; refine c_ret ?_; refine xTr ?_; cases hF
    refine r_ret (v := _) hE rfl ⟨_, _, _, rfl, hI.nil, rfl, none, rfl, Pt.nil⟩
  replace hF := cf hb402 hF; refine c_skip ?_; refine xT ?_; refine c_seq ?_; refine c_reg ?_; refine run tt_ok 1 hE rfl fun a hE => ?_; refine s_makeMap hI hE rfl rfl fun a w m38 hE hI => ?_
  have hM39 : RM G34 false D.str (D.int .i64) ([] : List (ByteArray × Int)) (#[] : Array MapEntry).toList := RM.nil; refine run tt_ok 1 hE rfl fun a hE => ?_
  refine s_rt hI hE rfl (f_loadB tt_ok 1 rfl rfl rfl rfl) rfl fun a hE => ?_; refine s_rt hI hE rfl (f_build tt_ok rfl z_103 rfl rfl) rfl fun a hE => ?_; refine s_box hI hE rfl rfl rfl rfl fun a w b41 hE hI => ?_
  refine run tt_ok 1 hE rfl fun a hE => ?_; refine c_end ?_; refine xT ?_; refine c_seq ?_; refine c_seq ?_; obtain ⟨m59, hF, hR61⟩ := bd hF
  refine c_cut (fun a' w' => ∃ (G57 : GH), G34.le G57 ∧ Env a' 106 [(1, .pointer (some ⟨b18, 0, none⟩)), (7, .pointer (some ⟨b41, 0, none⟩)), (49, .bool m59)] ∧ Inv w0 G0 [] G57 [.blk b41 [.pointer A35, .slice none 0 0, .map (some m38), .slice none 0 0, .slice none 0 0, .int .i64 p0.Limit] 103, .map m38 #[] 0, .blk b18 [.slice A1 p0.Levels.length c2, .slice A4 p0.Edges.length c5, .slice A7 p0.Tables.length c8, .slice A10 p0.Channels.length c11, .slice A13 p0.Principals.length c14, .int .i64 p0.Limit] 125] w') ?_ ?_
  · refine c_reg ?_; refine run tt_ok 1 hE rfl fun a hE => ?_; refine s_rt hI hE rfl (f_loadB tt_ok 2 rfl rfl rfl rfl) rfl fun a hE => ?_; refine run tt_ok 2 hE rfl fun a hE => ?_
    refine s_rt hI hE rfl (f_loadB tt_ok 2 rfl rfl rfl rfl) rfl fun a hE => ?_; refine run tt_ok 2 hE rfl fun a hE => ?_; refine s_rt hI hE rfl (f_loadB tt_ok 2 rfl rfl rfl rfl) rfl fun a hE => ?_
    refine run tt_ok 1 hE rfl fun a hE => ?_; refine s_rt hI hE rfl (f_max3 rfl rfl rfl) rfl fun a hE => ?_; refine run tt_ok 2 hE rfl fun a hE => ?_
    rcases bool_or (decide ((20 : Int) < (max (max (p0.Tables.length : Int) (p0.Channels.length : Int)) (p0.Principals.length : Int)))) with hb400 | hb400
    · replace hF := ct hb400 hF; have hE := hE.tr (t := 40) rfl hb400; clear hb400; refine run tt_ok 9 hE rfl fun a hE => ?_; refine c_end ?_; refine xT ?_; cases hF
      exact ⟨G34, (GH.le.refl _), hE.keep ⟨rfl, rfl, rfl, trivial⟩, hI⟩
    replace hF := cf hb400 hF; have hE := hE.tr (t := 40) rfl hb400; clear hb400; refine run tt_ok 1 hE rfl fun a hE => ?_; refine s_rt hI hE rfl (f_loadB tt_ok 2 rfl rfl rfl rfl) rfl fun a hE => ?_
    refine run tt_ok 3 hE rfl fun a hE => ?_; rcases bool_or (decide (p0.Limit < (0 : Int))) with hb401 | hb401
    · replace hF := ct hb401 hF; have hE := hE.tr (t := 45) rfl hb401; clear hb401; refine run tt_ok 4 hE rfl fun a hE => ?_; refine c_end ?_; refine xT ?_; cases hF
      exact ⟨G34, (GH.le.refl _), hE.keep ⟨rfl, rfl, rfl, trivial⟩, hI⟩
    replace hF := cf hb401 hF; have hE := hE.tr (t := 45) rfl hb401; clear hb401; refine run tt_ok 1 hE rfl fun a hE => ?_; refine s_rt hI hE rfl (f_loadB tt_ok 2 rfl rfl rfl rfl) rfl fun a hE => ?_
    refine run tt_ok 2 hE rfl fun a hE => ?_; refine c_end ?_; refine xT ?_; cases hF; exact ⟨G34, (GH.le.refl _), hE.keep ⟨rfl, rfl, rfl, trivial⟩, hI⟩
  clear hE hI; rintro a w ⟨G57, hg60, hE, hI⟩; clear hF; have hF := hR61; clear hR61; refine xT ?_; refine c_if (b := m59) hE rfl (fun hb399 => ?_) (fun hb399 => ?_)
  · replace hF := ct hb399 hF; refine c_seq ?_; refine c_reg ?_; refine run tt_ok 3 hE rfl fun a hE => ?_; refine c_end ?_; refine xT ?_; refine c_ret ?_; refine xTr ?_; cases hF
    refine r_ret (v := _) hE rfl ⟨_, _, _, rfl, hI.nil, rfl, none, rfl, Pt.nil⟩
  replace hF := cf hb399 hF; refine c_skip ?_; refine xT ?_; refine c_seq ?_; refine c_seq ?_; refine c_reg ?_; refine run tt_ok 3 hE rfl fun a hE => ?_
  refine s_rt hI hE rfl (f_loadB tt_ok 0 rfl rfl rfl rfl) rfl fun a hE => ?_; refine run tt_ok 1 hE rfl fun a hE => ?_; refine c_end ?_; refine xT ?_; obtain ⟨m66, hF, hR68⟩ := bd hF
  refine c_cut (fun a' w' => ∃ (G64 : GH), G57.le G64 ∧ Env a' 106 [(1, .pointer (some ⟨b18, 0, none⟩)), (7, .pointer (some ⟨b41, 0, none⟩))] ∧ Inv w0 G0 [] G64 [.blk b41 [.pointer A35, .slice none 0 0, .map (some m38), .slice none 0 0, .slice none 0 0, .int .i64 m66] 103, .map m38 #[] 0, .blk b18 [.slice A1 p0.Levels.length c2, .slice A4 p0.Edges.length c5, .slice A7 p0.Tables.length c8, .slice A10 p0.Channels.length c11, .slice A13 p0.Principals.length c14, .int .i64 p0.Limit] 125] w') ?_ ?_
  · refine c_if (b := decide (p0.Limit = (0 : Int))) hE rfl (fun hb398 => ?_) (fun hb398 => ?_); rotate_left
    · replace hF := cf hb398 hF; refine c_skip ?_; refine xT ?_; cases hF; exact ⟨G57, (GH.le.refl _), hE.keep ⟨rfl, rfl, trivial⟩, hI⟩
    replace hF := ct hb398 hF; refine c_reg ?_; refine run tt_ok 3 hE rfl fun a hE => ?_; refine s_storeB tt_ok 0 hI hE rfl rfl rfl rfl rfl rfl rfl rfl rfl rfl fun a w hE hI => ?_; refine c_end ?_; refine xT ?_; cases hF
    exact ⟨G57, (GH.le.refl _), hE.keep ⟨rfl, rfl, trivial⟩, hI⟩
  clear hE hI; rintro a w ⟨G64, hg67, hE, hI⟩; clear hF; have hF := hR68; clear hR68; refine xT ?_; refine c_seq ?_; refine c_seq ?_; refine c_reg ?_; refine run tt_ok 1 hE rfl fun a hE => ?_
  refine s_rt hI hE rfl (f_loadB tt_ok 2 rfl rfl rfl rfl) rfl fun a hE => ?_; refine run tt_ok 2 hE rfl fun a hE => ?_; refine c_end ?_; refine xT ?_; have hI := hI.nilrow 109 6
  have hR130 : RL G64 6 (([] : List TRelation).map TRelation.d) [] := RL.nil; obtain ⟨o277, hO278, hK279⟩ := bd hF; clear hF
  refine c_cut (fun a' w' => ∃ (s281 : (List TRelation) × (List (ByteArray × Int))) (G282 : GH) (A284 : Option Addr) (c285 : Nat) (cs286 : List Value) (es289 : Array MapEntry) (cl290 : Nat), o277 = .go s281 ∧ G64.le G282 ∧ Env a' 106 [(1, .pointer (some ⟨b18, 0, none⟩)), (7, .pointer (some ⟨b41, 0, none⟩))] ∧ Inv w0 G0 [] G282 [.row (.slice A284 s281.1.length c285) 109 6 s281.1.length cs286, .blk b41 [.pointer A35, .slice A284 s281.1.length c285, .map (some m38), .slice none 0 0, .slice none 0 0, .int .i64 m66] 103, .map m38 es289 cl290, .blk b18 [.slice A1 p0.Levels.length c2, .slice A4 p0.Edges.length c5, .slice A7 p0.Tables.length c8, .slice A10 p0.Channels.length c11, .slice A13 p0.Principals.length c14, .int .i64 p0.Limit] 125] w' ∧ RL G282 6 (s281.1.map TRelation.d) cs286 ∧ RM G282 false D.str (D.int .i64) s281.2 es289.toList) ?_ ?_
  rotate_left
  · clear hE hI hO278; rintro a w ⟨s281, G282, A284, c285, cs286, es289, cl290, rfl, hg292, hE, hI, hR287, hM291⟩; have hF := lrk_go hK279; clear hK279; refine xT ?_; refine c_seq ?_; refine c_reg ?_
    refine run tt_ok 1 hE rfl fun a hE => ?_; refine c_end ?_; refine xT ?_; refine c_seq ?_; refine c_seq ?_; refine c_reg ?_; refine run tt_ok 3 hE rfl fun a hE => ?_
    refine s_rt hI hE rfl (f_loadB tt_ok 3 rfl rfl rfl rfl) rfl fun a hE => ?_; have hI := hI.pick [1, 0, 2, 3] (by decide) rfl; obtain ⟨y303, hy304, hF⟩ := bd hF
    refine s_callM [.blk b41 [.pointer A35, .slice A284 s281.1.length c285, .map (some m38), .slice none 0 0, .slice none 0 0, .int .i64 m66] 103] [.row (.slice A284 s281.1.length c285) 109 6 s281.1.length cs286, .map m38 es289 cl290, .blk b18 [.slice A1 p0.Levels.length c2, .slice A4 p0.Edges.length c5, .slice A7 p0.Tables.length c8, .slice A10 p0.Channels.length c11, .slice A13 p0.Principals.length c14, .int .i64 p0.Limit] 125] cl_85 hI hE rfl rfl (fun hIp => (schema_Catalog_named.ok k) _ _ _ hy304 _ _ _ _ _ _ _ _ _ _ _ hIp (h36.mono ((hg60.trans hg67).trans hg292)) (h12.mono (((hg33.trans hg60).trans hg67).trans hg292))) rfl ?_; clear hE hI
    rintro a w _ G306 _ ⟨A307, c308, rfl, rfl, h309⟩ hg305 hI hE; refine run tt_ok 6 hE rfl fun a hE => ?_; refine s_storeB tt_ok 0 hI hE rfl rfl rfl rfl rfl rfl rfl rfl rfl rfl fun a w hE hI => ?_
    refine run tt_ok 2 hE rfl fun a hE => ?_; refine c_end ?_; refine xT ?_; refine c_seq ?_; refine c_reg ?_; refine run tt_ok 2 hE rfl fun a hE => ?_; refine c_end ?_; refine xT ?_
    refine c_if (b := !decide (y303.2.2.1 = (0 : Int))) hE rfl (fun hb338 => ?_) (fun hb338 => ?_)
    · replace hF := ct hb338 hF; refine c_seq ?_; refine c_reg ?_; refine run tt_ok 5 hE rfl fun a hE => ?_; refine c_end ?_; refine xT ?_; refine c_ret ?_; refine xTr ?_; cases hF
      refine r_ret (v := _) hE rfl ⟨_, _, _, rfl, hI.nil, rfl, none, rfl, Pt.nil⟩
    replace hF := cf hb338 hF; refine c_skip ?_; refine xT ?_; refine c_seq ?_; refine c_seq ?_; refine c_reg ?_; refine run tt_ok 3 hE rfl fun a hE => ?_
    refine s_rt hI hE rfl (f_loadB tt_ok 3 rfl rfl rfl rfl) rfl fun a hE => ?_; obtain ⟨y320, hy321, hF⟩ := bd hF
    refine s_callM [.blk b41 [.pointer A35, .slice A284 s281.1.length c285, .map (some m38), .slice A307 y303.1.length c308, .slice none 0 0, .int .i64 m66] 103] [.row (.slice A284 s281.1.length c285) 109 6 s281.1.length cs286, .map m38 es289 cl290, .blk b18 [.slice A1 p0.Levels.length c2, .slice A4 p0.Edges.length c5, .slice A7 p0.Tables.length c8, .slice A10 p0.Channels.length c11, .slice A13 p0.Principals.length c14, .int .i64 p0.Limit] 125] cl_85 hI hE rfl rfl (fun hIp => (schema_Catalog_named.ok k) _ _ _ hy321 _ _ _ _ _ _ _ _ _ _ _ hIp (h36.mono (((hg60.trans hg67).trans hg292).trans hg305)) (h15.mono ((((hg33.trans hg60).trans hg67).trans hg292).trans hg305))) rfl ?_; clear hE hI
    rintro a w _ G323 _ ⟨A324, c325, rfl, rfl, h326⟩ hg322 hI hE; refine run tt_ok 6 hE rfl fun a hE => ?_; refine s_storeB tt_ok 0 hI hE rfl rfl rfl rfl rfl rfl rfl rfl rfl rfl fun a w hE hI => ?_
    refine run tt_ok 2 hE rfl fun a hE => ?_; refine c_end ?_; refine xT ?_; refine c_seq ?_; refine c_reg ?_; refine run tt_ok 2 hE rfl fun a hE => ?_; refine c_end ?_; refine xT ?_
    refine c_if (b := !decide (y320.2.2.1 = (0 : Int))) hE rfl (fun hb337 => ?_) (fun hb337 => ?_)
    · replace hF := ct hb337 hF; refine c_seq ?_; refine c_reg ?_; refine run tt_ok 5 hE rfl fun a hE => ?_; refine c_end ?_; refine xT ?_; refine c_ret ?_; refine xTr ?_; cases hF
      refine r_ret (v := _) hE rfl ⟨_, _, _, rfl, hI.nil, rfl, none, rfl, Pt.nil⟩
    replace hF := cf hb337 hF; refine c_skip ?_; refine xT ?_; refine c_seq ?_; refine c_reg ?_; refine run tt_ok 4 hE rfl fun a hE => ?_; refine c_end ?_; refine xT ?_
    obtain ⟨G327, hg328, hI, h329⟩ := (hI.front 1).giveR (xs := s281.1.map TRelation.d) (by simp) (hR287.mono (hg305.trans hg322))
    obtain ⟨G330, hg331, hI, h332⟩ := (hI.front 1).giveM (hM291.mono ((hg305.trans hg322).trans hg328)); obtain ⟨G333, hg334, hI, hA335⟩ := (hI.front 0).giveB
    have h336 : Pt G333 (some ⟨b41, 0, none⟩) 103 Tschema_Catalog.d (some (Tschema_Catalog.mk y31.1 s281.1 s281.2 y303.1 y320.1 m66)) := Pt.mk ((Tschema_Catalog.inv (x := (Tschema_Catalog.mk y31.1 s281.1 s281.2 y303.1 y320.1 m66))).2 ⟨A35, A284, c285, (some m38), A307, c308, A324, c325, rfl, (h36.mono (((((((hg60.trans hg67).trans hg292).trans hg305).trans hg322).trans hg328).trans hg331).trans hg334)), (h329.mono (hg331.trans hg334)), (h332.mono hg334), (h309.mono (((hg322.trans hg328).trans hg331).trans hg334)), (h326.mono ((hg328.trans hg331).trans hg334))⟩) hA335
    refine c_ret ?_; cases hF; refine r_ret (v := _) hE rfl ⟨_, _, _, rfl, hI.nil, rfl, (some ⟨b41, 0, none⟩), rfl, h336⟩
  refine c_block ?_
  refine wp_loop_ghost (fun n' a' w' => ∃ (i341 : Nat) (rest343 : List TTable) (s276 : (List TRelation) × (List (ByteArray × Int))) (G266 : GH) (A268 : Option Addr) (c269 : Nat) (cs270 : List Value) (es273 : Array MapEntry) (cl274 : Nat), n' = rest343.length ∧ i341 ≤ p0.Tables.length ∧ p0.Tables.drop i341 = rest343 ∧ forL (schema_New.b0 k y31 m66) i341 rest343 s276 = some o277 ∧ G64.le G266 ∧ Env a' 106 [(61, .int .i64 (i341 : Int)), (1, .pointer (some ⟨b18, 0, none⟩)), (7, .pointer (some ⟨b41, 0, none⟩)), (59, .slice A7 p0.Tables.length c8), (60, .int .i64 (p0.Tables.length : Int))] ∧ Inv w0 G0 [] G266 [.row (.slice A268 s276.1.length c269) 109 6 s276.1.length cs270, .blk b41 [.pointer A35, .slice A268 s276.1.length c269, .map (some m38), .slice none 0 0, .slice none 0 0, .int .i64 m66] 103, .map m38 es273 cl274, .blk b18 [.slice A1 p0.Levels.length c2, .slice A4 p0.Edges.length c5, .slice A7 p0.Tables.length c8, .slice A10 p0.Channels.length c11, .slice A13 p0.Principals.length c14, .int .i64 p0.Limit] 125] w' ∧ RL G266 6 (s276.1.map TRelation.d) cs270 ∧ RM G266 false D.str (D.int .i64) s276.2 es273.toList) _ ⟨0, _, _, G64, none, 0, [], #[], 0, rfl, Nat.zero_le _, rfl, hO278, (GH.le.refl _), hE.keep ⟨rfl, rfl, rfl, rfl, rfl, trivial⟩, hI, hR130, (hM39.mono (hg60.trans hg67))⟩ ?_
  clear hE hI hO278; rintro m340 a w ⟨i341, rest343, s276, G266, A268, c269, cs270, es273, cl274, rfl, hi347, hd344, hO278, hg280, hE, hI, hR271, hM275⟩; rcases rest343 with _ | ⟨x342, rest343⟩
  · obtain rfl := forL_nil hO278; have hlt346 := drop_nil hd344 hi347; clear hd344; refine c_seq ?_; refine c_reg ?_; refine run tt_ok 1 hE rfl fun a hE => ?_; refine c_end ?_; refine xT ?_; refine c_seq ?_
    have hE := hE.tr (t := 62) rfl (decide_eq_false (by omega)); refine c_false hE rfl ?_; refine c_exit ?_; refine xTe ?_; refine xTe ?_; refine xBh ?_; refine xT ?_
    exact ⟨_, G266, A268, c269, cs270, es273, cl274, rfl, hg280, hE.keep ⟨rfl, rfl, trivial⟩, hI, hR271, hM275⟩
  obtain ⟨stp339, hF, hO278⟩ := forL_step hO278; obtain ⟨hx345, hd344, hlt346⟩ := drop_cons hd344; unfold schema_New.b0 at hF; refine c_seq ?_; refine c_reg ?_; refine run tt_ok 1 hE rfl fun a hE => ?_; refine c_end ?_
  refine xT ?_; refine c_seq ?_; have hE := hE.tr (t := 62) rfl (decide_eq_true (by omega)); refine c_true hE rfl ?_; refine c_skip ?_; refine xT ?_; refine c_seq ?_; refine c_block ?_; refine c_seq ?_; refine c_reg ?_
  refine run tt_ok 1 hE rfl fun a hE => ?_; obtain ⟨b358, o359, cs, hb371, hR361, hA360⟩ := sl_at (h9.mono (((hg33.trans hg60).trans hg67).trans hg280)) (Int.natCast_nonneg _) (natIdx hx345)
  obtain ⟨A362, c363, A365, c366, A368, c369, rfl, h364, h367, h370⟩ := TTable.inv.1 hR361; refine s_rt hI hE rfl (f_idx tt_ok hb371 rfl rfl rfl) rfl fun a hE => ?_
  refine s_rt hI hE rfl (f_loadG tt_ok hA360 0 rfl rfl rfl rfl) rfl fun a hE => ?_; refine s_alloc hI hE rfl z_135 rfl rfl fun a w b372 hE hI => ?_; refine run tt_ok 1 hE rfl fun a hE => ?_
  refine s_storeB tt_ok 0 hI hE rfl rfl rfl rfl rfl rfl rfl rfl rfl rfl fun a w hE hI => ?_; refine c_end ?_; refine xT ?_; refine c_seq ?_; refine c_reg ?_; refine run tt_ok 1 hE rfl fun a hE => ?_
  refine s_rt hI hE rfl (f_loadB tt_ok 0 rfl rfl rfl rfl) rfl fun a hE => ?_; have hI := hI.pick [2, 1, 3, 0, 4] (by decide) rfl; obtain ⟨y384, hy385, hF⟩ := bd hF
  refine s_callM [.blk b41 [.pointer A35, .slice A268 s276.1.length c269, .map (some m38), .slice none 0 0, .slice none 0 0, .int .i64 m66] 103, .row (.slice A268 s276.1.length c269) 109 6 s276.1.length cs270, .map m38 es273 cl274] [.blk b372 [.string x342.Name, .string x342.Rows, .slice A362 x342.Cols.length c363, .slice A365 x342.Key.length c366, .string x342.Hide, .slice A368 x342.When.length c369] 135, .blk b18 [.slice A1 p0.Levels.length c2, .slice A4 p0.Edges.length c5, .slice A7 p0.Tables.length c8, .slice A10 p0.Channels.length c11, .slice A13 p0.Principals.length c14, .int .i64 p0.Limit] 125] cl_84 hI hE rfl rfl (fun hIp => (schema_Catalog_table.ok k) _ _ _ hy385 _ _ _ _ _ _ _ _ _ _ _ _ _ _ _ _ hIp (h36.mono ((hg60.trans hg67).trans hg280)) hR271 hM275 (Sl.nil _ _ _ _ (Nat.zero_le _)) (Sl.nil _ _ _ _ (Nat.zero_le _)) (TTable.inv.2 ⟨A362, c363, A365, c366, A368, c369, rfl, h364, h367, h370⟩)) rfl ?_; clear hE hI
  rintro a w _ G387 _ ⟨A389, c390, cs391, es394, cl395, rfl, rfl, hR392, hM396⟩ hg386 hI hE; refine run tt_ok 1 hE rfl fun a hE => ?_; refine c_end ?_; refine xT ?_; refine c_seq ?_; refine c_reg ?_
  refine run tt_ok 2 hE rfl fun a hE => ?_; refine c_end ?_; refine xT ?_; refine c_if (b := !decide (y384.1 = (0 : Int))) hE rfl (fun hb397 => ?_) (fun hb397 => ?_)
  · replace hF := ct hb397 hF; refine c_seq ?_; refine c_reg ?_; refine run tt_ok 6 hE rfl fun a hE => ?_; refine c_end ?_; refine xT ?_; refine c_ret ?_; refine xBr ?_; refine xTr ?_; refine xTr ?_; refine xBr ?_
    refine xTr ?_; refine xTr ?_; cases hF; obtain rfl := nxt_ret hO278; have hF := lrk_ret hK279; cases hF; refine r_ret (v := _) hE rfl ⟨_, _, _, rfl, hI.nil, rfl, none, rfl, Pt.nil⟩
  replace hF := cf hb397 hF; refine c_skip ?_; refine xB ?_; refine xT ?_; refine c_reg ?_; refine run tt_ok 2 hE rfl fun a hE => ?_; refine c_end ?_; refine xT ?_; cases hF
  have hE := hE.setI (t := 61) rfl (w64_succ hlt346 (len_le h9))
  exact ⟨rest343.length, Nat.lt_succ_self _, i341 + 1, rest343, _, G387, A389, c390, cs391, es394, cl395, rfl, hlt346, hd344, hO278, (hg280.trans hg386), hE.keep ⟨rfl, rfl, rfl, rfl, rfl, trivial⟩, (hI.pick [1, 0, 2, 4] (by decide) rfl), hR392, hM396⟩

theorem cl_124 : Callable Try.prog 124 := ⟨_, Try.func124, by kernel_rfl, by kernel_rfl⟩

def ref05_blank.C (s : Int → Option Bool) : Prop := ∀ (p0 : Int) (r : Bool), s p0 = some r → ∀ (w0 : World) (G0 : GH) , Inv w0 G0 [] G0 [] w0 → Calls Try.prog 124 #[.int .u8 p0] w0 (Ret w0 G0 [] fun G' L' v => L' = [] ∧ v = .bool r)

theorem ref05_blank.ok (k : Nat) : ref05_blank.C (ref05_blank k) := by
  intro p0 r hF w0 G0  hI 
  unfold ref05_blank at hF
  refine calls_of_wp Try.func124 rfl ?_
  have hE : Env _ 17 [(0, .int .u8 p0)] := Env.start ⟨[.int .u8 p0]⟩ 16
  refine c_seq ?_; refine c_reg ?_; refine run tt_ok 1 hE rfl fun a hE => ?_; refine c_end ?_; refine xT ?_; refine c_seq ?_; obtain ⟨m6, hF, hR8⟩ := bd hF
  refine c_cut (fun a' w' => ∃ (G4 : GH), G0.le G4 ∧ Env a' 17 [(2, .bool m6)] ∧ Inv w0 G0 [] G4 [] w') ?_ ?_; rotate_left
  · clear hE hI; rintro a w ⟨G4, hg7, hE, hI⟩; clear hF; have hF := hR8; clear hR8; refine xT ?_; refine c_ret ?_; cases hF; refine r_ret (v := _) hE rfl ⟨_, _, _, rfl, hI.nil, rfl, rfl⟩
  refine c_reg ?_; refine run tt_ok 3 hE rfl fun a hE => ?_; rcases bool_or (decide (p0 = (32 : Int))) with hb9 | hb9
  · replace hF := ct hb9 hF; have hE := hE.tr (t := 5) rfl hb9; clear hb9; refine run tt_ok 12 hE rfl fun a hE => ?_; refine c_end ?_; refine xT ?_; cases hF; exact ⟨G0, (GH.le.refl _), hE.keep ⟨rfl, trivial⟩, hI⟩
  replace hF := cf hb9 hF; have hE := hE.tr (t := 5) rfl hb9; clear hb9; refine run tt_ok 4 hE rfl fun a hE => ?_; rcases bool_or (decide (p0 = (9 : Int))) with hb10 | hb10
  · replace hF := ct hb10 hF; have hE := hE.tr (t := 9) rfl hb10; clear hb10; refine run tt_ok 8 hE rfl fun a hE => ?_; refine c_end ?_; refine xT ?_; cases hF; exact ⟨G0, (GH.le.refl _), hE.keep ⟨rfl, trivial⟩, hI⟩
  replace hF := cf hb10 hF; have hE := hE.tr (t := 9) rfl hb10; clear hb10; refine run tt_ok 4 hE rfl fun a hE => ?_; rcases bool_or (decide (p0 = (10 : Int))) with hb11 | hb11
  · replace hF := ct hb11 hF; have hE := hE.tr (t := 13) rfl hb11; clear hb11; refine run tt_ok 4 hE rfl fun a hE => ?_; refine c_end ?_; refine xT ?_; cases hF; exact ⟨G0, (GH.le.refl _), hE.keep ⟨rfl, trivial⟩, hI⟩
  replace hF := cf hb11 hF; have hE := hE.tr (t := 13) rfl hb11; clear hb11; refine run tt_ok 4 hE rfl fun a hE => ?_; refine c_end ?_; refine xT ?_; cases hF; exact ⟨G0, (GH.le.refl _), hE.keep ⟨rfl, trivial⟩, hI⟩

theorem cl_129 : Callable Try.prog 129 := ⟨_, Try.func129, by kernel_rfl, by kernel_rfl⟩

def ref05_letter.C (s : Int → Option Bool) : Prop := ∀ (p0 : Int) (r : Bool), s p0 = some r → ∀ (w0 : World) (G0 : GH) , Inv w0 G0 [] G0 [] w0 → Calls Try.prog 129 #[.int .u8 p0] w0 (Ret w0 G0 [] fun G' L' v => L' = [] ∧ v = .bool r)

theorem ref05_letter.ok (k : Nat) : ref05_letter.C (ref05_letter k) := by
  intro p0 r hF w0 G0  hI 
  unfold ref05_letter at hF
  refine calls_of_wp Try.func129 rfl ?_
  have hE : Env _ 21 [(0, .int .u8 p0)] := Env.start ⟨[.int .u8 p0]⟩ 20
  refine c_seq ?_; refine c_reg ?_; refine run tt_ok 1 hE rfl fun a hE => ?_; refine c_end ?_; refine xT ?_; refine c_seq ?_; obtain ⟨m9, hF, hR11⟩ := bd hF
  refine c_cut (fun a' w' => ∃ (G7 : GH), G0.le G7 ∧ Env a' 21 [(2, .bool m9)] ∧ Inv w0 G0 [] G7 [] w') ?_ ?_; rotate_left
  · clear hE hI; rintro a w ⟨G7, hg10, hE, hI⟩; clear hF; have hF := hR11; clear hR11; refine xT ?_; refine c_ret ?_; cases hF; refine r_ret (v := _) hE rfl ⟨_, _, _, rfl, hI.nil, rfl, rfl⟩
  refine c_reg ?_; refine run tt_ok 3 hE rfl fun a hE => ?_; rcases bool_or (decide ((97 : Int) ≤ p0)) with hb12 | hb12; rotate_left
  · replace hF := cf hb12 hF; have hE := hE.tr (t := 5) rfl hb12; clear hb12; refine run tt_ok 7 hE rfl fun a hE => ?_; rcases bool_or (decide ((65 : Int) ≤ p0)) with hb16 | hb16; rotate_left
    · replace hF := cf hb16 hF; have hE := hE.tr (t := 12) rfl hb16; clear hb16; refine run tt_ok 9 hE rfl fun a hE => ?_; refine c_end ?_; refine xT ?_; cases hF; exact ⟨G0, (GH.le.refl _), hE.keep ⟨rfl, trivial⟩, hI⟩
    replace hF := ct hb16 hF; have hE := hE.tr (t := 12) rfl hb16; clear hb16; refine run tt_ok 5 hE rfl fun a hE => ?_; rcases bool_or (decide (p0 ≤ (90 : Int))) with hb17 | hb17
    · replace hF := ct hb17 hF; have hE := hE.tr (t := 17) rfl hb17; clear hb17; refine run tt_ok 4 hE rfl fun a hE => ?_; refine c_end ?_; refine xT ?_; cases hF; exact ⟨G0, (GH.le.refl _), hE.keep ⟨rfl, trivial⟩, hI⟩
    replace hF := cf hb17 hF; have hE := hE.tr (t := 17) rfl hb17; clear hb17; refine run tt_ok 4 hE rfl fun a hE => ?_; refine c_end ?_; refine xT ?_; cases hF; exact ⟨G0, (GH.le.refl _), hE.keep ⟨rfl, trivial⟩, hI⟩
  replace hF := ct hb12 hF; have hE := hE.tr (t := 5) rfl hb12; clear hb12; refine run tt_ok 4 hE rfl fun a hE => ?_; rcases bool_or (decide (p0 ≤ (122 : Int))) with hb13 | hb13
  · replace hF := ct hb13 hF; have hE := hE.tr (t := 9) rfl hb13; clear hb13; refine run tt_ok 12 hE rfl fun a hE => ?_; refine c_end ?_; refine xT ?_; cases hF; exact ⟨G0, (GH.le.refl _), hE.keep ⟨rfl, trivial⟩, hI⟩
  replace hF := cf hb13 hF; have hE := hE.tr (t := 9) rfl hb13; clear hb13; refine run tt_ok 3 hE rfl fun a hE => ?_; rcases bool_or (decide ((65 : Int) ≤ p0)) with hb14 | hb14; rotate_left
  · replace hF := cf hb14 hF; have hE := hE.tr (t := 12) rfl hb14; clear hb14; refine run tt_ok 9 hE rfl fun a hE => ?_; refine c_end ?_; refine xT ?_; cases hF; exact ⟨G0, (GH.le.refl _), hE.keep ⟨rfl, trivial⟩, hI⟩
  replace hF := ct hb14 hF; have hE := hE.tr (t := 12) rfl hb14; clear hb14; refine run tt_ok 5 hE rfl fun a hE => ?_; rcases bool_or (decide (p0 ≤ (90 : Int))) with hb15 | hb15
  · replace hF := ct hb15 hF; have hE := hE.tr (t := 17) rfl hb15; clear hb15; refine run tt_ok 4 hE rfl fun a hE => ?_; refine c_end ?_; refine xT ?_; cases hF; exact ⟨G0, (GH.le.refl _), hE.keep ⟨rfl, trivial⟩, hI⟩
  replace hF := cf hb15 hF; have hE := hE.tr (t := 17) rfl hb15; clear hb15; refine run tt_ok 4 hE rfl fun a hE => ?_; refine c_end ?_; refine xT ?_; cases hF; exact ⟨G0, (GH.le.refl _), hE.keep ⟨rfl, trivial⟩, hI⟩

theorem cl_130 : Callable Try.prog 130 := ⟨_, Try.func130, by kernel_rfl, by kernel_rfl⟩

def ref05_digit.C (s : Int → Option Bool) : Prop := ∀ (p0 : Int) (r : Bool), s p0 = some r → ∀ (w0 : World) (G0 : GH) , Inv w0 G0 [] G0 [] w0 → Calls Try.prog 130 #[.int .u8 p0] w0 (Ret w0 G0 [] fun G' L' v => L' = [] ∧ v = .bool r)

theorem ref05_digit.ok (k : Nat) : ref05_digit.C (ref05_digit k) := by
  intro p0 r hF w0 G0  hI 
  unfold ref05_digit at hF
  refine calls_of_wp Try.func130 rfl ?_
  have hE : Env _ 9 [(0, .int .u8 p0)] := Env.start ⟨[.int .u8 p0]⟩ 8
  refine c_seq ?_; refine c_reg ?_; refine run tt_ok 1 hE rfl fun a hE => ?_; refine c_end ?_; refine xT ?_; refine c_seq ?_; obtain ⟨m4, hF, hR6⟩ := bd hF
  refine c_cut (fun a' w' => ∃ (G2 : GH), G0.le G2 ∧ Env a' 9 [(2, .bool m4)] ∧ Inv w0 G0 [] G2 [] w') ?_ ?_; rotate_left
  · clear hE hI; rintro a w ⟨G2, hg5, hE, hI⟩; clear hF; have hF := hR6; clear hR6; refine xT ?_; refine c_ret ?_; cases hF; refine r_ret (v := _) hE rfl ⟨_, _, _, rfl, hI.nil, rfl, rfl⟩
  refine c_reg ?_; refine run tt_ok 3 hE rfl fun a hE => ?_; rcases bool_or (decide ((48 : Int) ≤ p0)) with hb7 | hb7
  · replace hF := ct hb7 hF; have hE := hE.tr (t := 5) rfl hb7; clear hb7; refine run tt_ok 4 hE rfl fun a hE => ?_; refine c_end ?_; refine xT ?_; cases hF; exact ⟨G0, (GH.le.refl _), hE.keep ⟨rfl, trivial⟩, hI⟩
  replace hF := cf hb7 hF; have hE := hE.tr (t := 5) rfl hb7; clear hb7; refine run tt_ok 4 hE rfl fun a hE => ?_; refine c_end ?_; refine xT ?_; cases hF; exact ⟨G0, (GH.le.refl _), hE.keep ⟨rfl, trivial⟩, hI⟩

theorem cl_131 : Callable Try.prog 131 := ⟨_, Try.func131, by kernel_rfl, by kernel_rfl⟩

def ref05_text.C (s : ByteArray → Int → Option (Int × ByteArray × Int × Int)) : Prop := ∀ (p0 : ByteArray) (p1 : Int) (r : Int × ByteArray × Int × Int), s p0 p1 = some r → ∀ (w0 : World) (G0 : GH) , Inv w0 G0 [] G0 [] w0 → Calls Try.prog 131 #[.string p0, .int .i64 p1] w0 (Ret w0 G0 [] fun G' L' v => L' = [] ∧ v = .tuple ⟨[.int .i64 r.1, .string r.2.1, .int .i64 r.2.2.1, .int .i64 r.2.2.2]⟩)

theorem ref05_text.ok (k : Nat) : ref05_text.C (ref05_text k) := by
  intro p0 p1 r hF w0 G0  hI 
  unfold ref05_text at hF
  refine calls_of_wp Try.func131 rfl ?_
  have hE : Env _ 65 [(0, .string p0), (1, .int .i64 p1)] := Env.start ⟨[.string p0, .int .i64 p1]⟩ 63
  refine c_seq ?_; refine c_reg ?_; refine run tt_ok 4 hE rfl fun a hE => ?_; refine c_end ?_; refine xT ?_; refine c_seq ?_; refine c_reg ?_; refine run tt_ok 1 hE rfl fun a hE => ?_; refine c_end ?_; refine xT ?_
  refine c_seq ?_; refine c_seq ?_; refine c_reg ?_; refine run tt_ok 3 hE rfl fun a hE => ?_; refine c_end ?_; refine xT ?_; have hI := hI.nilrow 5 1; have hR209 : RL G0 1 (([] : List Int).map (D.int .u8)) [] := RL.nil
  obtain ⟨o512, hO513, hK514⟩ := bd hF; clear hF
  refine c_cut (fun a' w' => ∃ (s516 : (List Int) × Int) (G517 : GH) (A519 : Option Addr) (c520 : Nat) (cs521 : List Value), o512 = .go s516 ∧ G0.le G517 ∧ Env a' 65 [(1, .int .i64 p1)] ∧ Inv w0 G0 [] G517 [.row (.slice A519 s516.1.length c520) 5 1 s516.1.length cs521] w' ∧ RL G517 1 (s516.1.map (D.int .u8)) cs521) ?_ ?_
  rotate_left
  · clear hE hI hO513; rintro a w ⟨s516, G517, A519, c520, cs521, rfl, hg524, hE, hI, hR522⟩; have hF := lrk_go hK514; clear hK514; refine xT ?_; refine c_seq ?_; refine c_reg ?_; refine run tt_ok 5 hE rfl fun a hE => ?_
    refine c_end ?_; refine xT ?_; refine c_ret ?_; cases hF; refine r_ret (v := _) hE rfl ⟨_, _, _, rfl, hI.nil, rfl, rfl⟩
  refine c_block ?_
  refine wp_loop_ghost (fun n' a' w' => ∃ (s511 : (List Int) × Int) (G504 : GH) (A506 : Option Addr) (c507 : Nat) (cs508 : List Value), whileL (ref05_text.b0 k p0 p1) n' s511 = some o512 ∧ G0.le G504 ∧ Env a' 65 [(0, .string p0), (1, .int .i64 p1), (8, .slice A506 s511.1.length c507), (9, .int .i64 s511.2)] ∧ Inv w0 G0 [] G504 [.row (.slice A506 s511.1.length c507) 5 1 s511.1.length cs508] w' ∧ RL G504 1 (s511.1.map (D.int .u8)) cs508) _ ⟨_, G0, none, 0, [], hO513, (GH.le.refl _), hE.keep ⟨rfl, rfl, rfl, rfl, trivial⟩, hI, hR209⟩ ?_
  clear hE hI hO513; rintro m526 a w ⟨s511, G504, A506, c507, cs508, hO513, hg515, hE, hI, hR509⟩; rcases m526 with _ | m526
  · cases hO513
  obtain ⟨stp525, hF, hO513⟩ := while_step hO513; unfold ref05_text.b0 at hF; refine c_seq ?_; refine c_seq ?_; refine c_reg ?_; refine run tt_ok 4 hE rfl fun a hE => ?_; refine c_end ?_; refine xT ?_
  refine c_if (b := decide (s511.2 < (p0.size : Int))) hE rfl (fun hb668 => ?_) (fun hb668 => ?_); rotate_left
  · replace hF := cf hb668 hF; refine c_exit ?_; refine xTe ?_; refine xTe ?_; refine xBh ?_; refine xT ?_; cases hF; obtain rfl := wnxt_brk hO513
    exact ⟨_, G504, A506, c507, cs508, rfl, hg515, hE.keep ⟨rfl, trivial⟩, hI, hR509⟩
  replace hF := ct hb668 hF; refine c_skip ?_; refine xT ?_; refine c_seq ?_
  refine c_cut (fun a' w' => ∃ (m603 : (List Int) × Int), ref05_text.j1 k m603 = some stp525 ∧ ∃ (G596 : GH) (A598 : Option Addr) (c599 : Nat) (cs600 : List Value), G504.le G596 ∧ Env a' 65 [(0, .string p0), (1, .int .i64 p1), (8, .slice A598 m603.1.length c599), (9, .int .i64 m603.2)] ∧ Inv w0 G0 [] G596 [.row (.slice A598 m603.1.length c599) 5 1 m603.1.length cs600] w' ∧ RL G596 1 (m603.1.map (D.int .u8)) cs600) ?_ ?_
  rotate_left
  · clear hE hI hF; rintro a w ⟨m603, hF, G596, A598, c599, cs600, hg604, hE, hI, hR601⟩; unfold ref05_text.j1 at hF; refine xT ?_; refine c_reg ?_; refine run tt_ok 3 hE rfl fun a hE => ?_; refine c_end ?_; refine xT ?_
    cases hF; exact ⟨m526, Nat.lt_succ_self _, _, G596, A598, c599, cs600, hO513, (hg515.trans hg604), hE.keep ⟨rfl, rfl, rfl, rfl, trivial⟩, hI, hR601⟩
  refine c_block ?_; refine c_seq ?_; refine c_seq ?_; obtain ⟨m614, hF, hR616⟩ := bd hF
  refine c_cut (fun a' w' => ∃ (G612 : GH), G504.le G612 ∧ Env a' 65 [(0, .string p0), (1, .int .i64 p1), (8, .slice A506 s511.1.length c507), (9, .int .i64 s511.2), (27, .bool m614)] ∧ Inv w0 G0 [] G612 [.row (.slice A506 s511.1.length c507) 5 1 s511.1.length cs508] w') ?_ ?_
  · refine c_reg ?_; refine run tt_ok 2 hE rfl fun a hE => ?_; obtain ⟨z663, hz664, hF⟩ := bd hF; refine s_rt hI hE rfl (f_sidx tt_ok rfl rfl rfl hz664) rfl fun a hE => ?_; refine run tt_ok 2 hE rfl fun a hE => ?_
    rcases bool_or (decide (z663 < (32 : Int))) with hb665 | hb665; rotate_left
    · replace hF := cf hb665 hF; have hE := hE.tr (t := 22) rfl hb665; clear hb665; refine run tt_ok 5 hE rfl fun a hE => ?_; refine c_end ?_; refine xT ?_; cases hF
      exact ⟨G504, (GH.le.refl _), hE.keep ⟨rfl, rfl, rfl, rfl, rfl, trivial⟩, hI⟩
    replace hF := ct hb665 hF; have hE := hE.tr (t := 22) rfl hb665; clear hb665; refine run tt_ok 2 hE rfl fun a hE => ?_; obtain ⟨z666, hz667, hF⟩ := bd hF
    refine s_rt hI hE rfl (f_sidx tt_ok rfl rfl rfl hz667) rfl fun a hE => ?_; refine run tt_ok 2 hE rfl fun a hE => ?_; refine c_end ?_; refine xT ?_; cases hF
    exact ⟨G504, (GH.le.refl _), hE.keep ⟨rfl, rfl, rfl, rfl, rfl, trivial⟩, hI⟩
  clear hE hI; rintro a w ⟨G612, hg615, hE, hI⟩; clear hF; have hF := hR616; clear hR616; refine xT ?_; refine c_if (b := m614) hE rfl (fun hb662 => ?_) (fun hb662 => ?_)
  · replace hF := ct hb662 hF; refine c_seq ?_; refine c_reg ?_; refine run tt_ok 5 hE rfl fun a hE => ?_; refine c_end ?_; refine xT ?_; refine c_ret ?_; refine xTr ?_; refine xBr ?_; refine xTr ?_; refine xTr ?_
    refine xTr ?_; refine xBr ?_; refine xTr ?_; refine xTr ?_; cases hF; obtain rfl := wnxt_ret hO513; have hF := lrk_ret hK514; cases hF; refine r_ret (v := _) hE rfl ⟨_, _, _, rfl, hI.nil, rfl, rfl⟩
  replace hF := cf hb662 hF; refine c_skip ?_; refine xT ?_; refine c_seq ?_; refine c_seq ?_; refine c_reg ?_; refine run tt_ok 2 hE rfl fun a hE => ?_; obtain ⟨z618, hz619, hF⟩ := bd hF
  refine s_rt hI hE rfl (f_sidx tt_ok rfl rfl rfl hz619) rfl fun a hE => ?_; refine run tt_ok 1 hE rfl fun a hE => ?_; refine c_end ?_; refine xT ?_
  refine c_if (b := !decide (z618 = (39 : Int))) hE rfl (fun hb661 => ?_) (fun hb661 => ?_)
  · replace hF := ct hb661 hF; refine c_seq ?_; refine c_reg ?_; refine run tt_ok 3 hE rfl fun a hE => ?_; obtain ⟨z625, hz626, hF⟩ := bd hF; refine s_rt hI hE rfl (f_sidx tt_ok rfl rfl rfl hz626) rfl fun a hE => ?_
    refine s_bsl ai_184 hI hE rfl rfl rfl rfl rfl fun a w b627 hE hI => ?_; have hR629 : RL G612 1 ([z625].map (D.int .u8)) [.int .u8 z625] := (RL.cons (rep_int.2 rfl) rfl RL.nil); obtain ⟨_, hb630, hF⟩ := bd hF
    refine s_appO (f := (D.int .u8)) (xs := s511.1) (ys := [z625]) ai_184 1 0 hI hE rfl rfl rfl hR629 rfl rfl (lim_le hb630) rfl fun a w A631 c632 hE hI => ?_; have hR634 := RL.appm (hR509.mono hg615) hR629
    refine run tt_ok 1 hE rfl fun a hE => ?_; refine c_end ?_; refine xT ?_; refine c_exit ?_; refine xTe ?_; refine xBh ?_; refine xT ?_
    exact ⟨_, hF, G612, A631, c632, (cs508 ++ [.int .u8 z625]), hg615, hE.keep ⟨rfl, rfl, rfl, rfl, trivial⟩, (hI.dropN 1 rfl), hR634⟩
  replace hF := cf hb661 hF; refine c_skip ?_; refine xT ?_; refine c_seq ?_; refine c_seq ?_; obtain ⟨m640, hF, hR642⟩ := bd hF
  refine c_cut (fun a' w' => ∃ (G638 : GH), G612.le G638 ∧ Env a' 65 [(0, .string p0), (1, .int .i64 p1), (8, .slice A506 s511.1.length c507), (9, .int .i64 s511.2), (50, .bool m640)] ∧ Inv w0 G0 [] G638 [.row (.slice A506 s511.1.length c507) 5 1 s511.1.length cs508] w') ?_ ?_
  · refine c_reg ?_; refine run tt_ok 6 hE rfl fun a hE => ?_; rcases bool_or (decide ((w64 (s511.2 + (1 : Int))) < (p0.size : Int))) with hb658 | hb658; rotate_left
    · replace hF := cf hb658 hF; have hE := hE.tr (t := 44) rfl hb658; clear hb658; refine run tt_ok 6 hE rfl fun a hE => ?_; refine c_end ?_; refine xT ?_; cases hF
      exact ⟨G612, (GH.le.refl _), hE.keep ⟨rfl, rfl, rfl, rfl, rfl, trivial⟩, hI⟩
    replace hF := ct hb658 hF; have hE := hE.tr (t := 44) rfl hb658; clear hb658; refine run tt_ok 3 hE rfl fun a hE => ?_; obtain ⟨z659, hz660, hF⟩ := bd hF
    refine s_rt hI hE rfl (f_sidx tt_ok rfl rfl rfl hz660) rfl fun a hE => ?_; refine run tt_ok 2 hE rfl fun a hE => ?_; refine c_end ?_; refine xT ?_; cases hF
    exact ⟨G612, (GH.le.refl _), hE.keep ⟨rfl, rfl, rfl, rfl, rfl, trivial⟩, hI⟩
  clear hE hI; rintro a w ⟨G638, hg641, hE, hI⟩; clear hF; have hF := hR642; clear hR642; refine xT ?_; refine c_if (b := m640) hE rfl (fun hb657 => ?_) (fun hb657 => ?_)
  · replace hF := ct hb657 hF; refine c_seq ?_; refine c_reg ?_; refine run tt_ok 1 hE rfl fun a hE => ?_; refine s_bsl ai_184 hI hE rfl rfl rfl rfl rfl fun a w b647 hE hI => ?_
    have hR649 : RL G638 1 ([(39 : Int)].map (D.int .u8)) [.int .u8 (39 : Int)] := (RL.cons (rep_int.2 rfl) rfl RL.nil); obtain ⟨_, hb650, hF⟩ := bd hF
    refine s_appO (f := (D.int .u8)) (xs := s511.1) (ys := [(39 : Int)]) ai_184 1 0 hI hE rfl rfl rfl hR649 rfl rfl (lim_le hb650) rfl fun a w A651 c652 hE hI => ?_
    have hR654 := RL.appm (hR509.mono (hg615.trans hg641)) hR649; refine run tt_ok 1 hE rfl fun a hE => ?_; refine c_end ?_; refine xT ?_; refine c_seq ?_; refine c_reg ?_; refine run tt_ok 3 hE rfl fun a hE => ?_
    refine c_end ?_; refine xT ?_; refine c_exit ?_; refine xTe ?_; refine xBh ?_; refine xT ?_
    exact ⟨_, hF, G638, A651, c652, (cs508 ++ [.int .u8 (39 : Int)]), (hg615.trans hg641), hE.keep ⟨rfl, rfl, rfl, rfl, trivial⟩, (hI.dropN 1 rfl), hR654⟩
  replace hF := cf hb657 hF; refine c_skip ?_; refine xT ?_; refine c_seq ?_; refine c_seq ?_; refine c_reg ?_; refine run tt_ok 3 hE rfl fun a hE => ?_; refine c_end ?_; refine xT ?_
  refine c_if (b := decide ((1000 : Int) < (s511.1.length : Int))) hE rfl (fun hb656 => ?_) (fun hb656 => ?_)
  · replace hF := ct hb656 hF; refine c_seq ?_; refine c_reg ?_; refine run tt_ok 5 hE rfl fun a hE => ?_; refine c_end ?_; refine xT ?_; refine c_ret ?_; refine xTr ?_; refine xBr ?_; refine xTr ?_; refine xTr ?_
    refine xTr ?_; refine xBr ?_; refine xTr ?_; refine xTr ?_; cases hF; obtain rfl := wnxt_ret hO513; have hF := lrk_ret hK514; cases hF; refine r_ret (v := _) hE rfl ⟨_, _, _, rfl, hI.nil, rfl, rfl⟩
  replace hF := cf hb656 hF; refine c_skip ?_; refine xT ?_; refine c_seq ?_; refine c_draw mixed (by kernel_rfl) hI ?_; clear hI; refine runq tt_ok 3 hE rfl fun a hE => ?_
  refine q_rt hE rfl (f_b2sR 0 ul_184 uk_5 uk_9 rfl (hR509.mono (hg615.trans hg641)) rfl) rfl fun a hE => ?_; refine runq tt_ok 4 hE rfl fun a hE => ?_; refine q_end ?_; intro w hI; refine xT ?_; refine c_ret ?_
  refine xBr ?_; refine xTr ?_; refine xTr ?_; refine xTr ?_; refine xBr ?_; refine xTr ?_; refine xTr ?_; cases hF; obtain rfl := wnxt_ret hO513; have hF := lrk_ret hK514; cases hF
  refine r_ret (v := _) hE rfl ⟨_, _, _, rfl, hI.nil, rfl, rfl⟩

theorem cl_132 : Callable Try.prog 132 := ⟨_, Try.func132, by kernel_rfl, by kernel_rfl⟩

def ref05_Marks.C (s : Option (List ByteArray)) : Prop := ∀  (r : (List ByteArray)), s  = some r → ∀ (w0 : World) (G0 : GH) , Inv w0 G0 [] G0 [] w0 → Calls Try.prog 132 #[] w0 (Ret w0 G0 [] fun G' L' v => L' = [] ∧ ∃ A0 c0, v = .slice A0 r.length c0 ∧ Sl G' A0 c0 1 (r.map D.str))

theorem ref05_Marks.ok (k : Nat) : ref05_Marks.C (ref05_Marks k) := by
  intro  r hF w0 G0  hI 
  unfold ref05_Marks at hF
  refine calls_of_wp Try.func132 rfl ?_
  have hE : Env _ 2 [] := Env.start ⟨[]⟩ 2
  refine c_seq ?_; refine c_reg ?_; refine run tt_ok 1 hE rfl fun a hE => ?_; refine c_end ?_; refine xT ?_; refine c_seq ?_; refine c_reg ?_; refine s_bsl ai_22 hI hE rfl rfl rfl rfl rfl fun a w b1 hE hI => ?_
  have hR3 : RL G0 1 ([(⟨#[124, 124]⟩ : ByteArray), (⟨#[60, 62]⟩ : ByteArray), (⟨#[60, 61]⟩ : ByteArray), (⟨#[62, 61]⟩ : ByteArray), (⟨#[40]⟩ : ByteArray), (⟨#[41]⟩ : ByteArray), (⟨#[44]⟩ : ByteArray), (⟨#[59]⟩ : ByteArray), (⟨#[46]⟩ : ByteArray), (⟨#[42]⟩ : ByteArray), (⟨#[43]⟩ : ByteArray), (⟨#[45]⟩ : ByteArray), (⟨#[47]⟩ : ByteArray), (⟨#[37]⟩ : ByteArray), (⟨#[61]⟩ : ByteArray), (⟨#[60]⟩ : ByteArray), (⟨#[62]⟩ : ByteArray), (⟨#[123]⟩ : ByteArray), (⟨#[125]⟩ : ByteArray), (⟨#[58]⟩ : ByteArray)].map D.str) [.string (⟨#[124, 124]⟩ : ByteArray), .string (⟨#[60, 62]⟩ : ByteArray), .string (⟨#[60, 61]⟩ : ByteArray), .string (⟨#[62, 61]⟩ : ByteArray), .string (⟨#[40]⟩ : ByteArray), .string (⟨#[41]⟩ : ByteArray), .string (⟨#[44]⟩ : ByteArray), .string (⟨#[59]⟩ : ByteArray), .string (⟨#[46]⟩ : ByteArray), .string (⟨#[42]⟩ : ByteArray), .string (⟨#[43]⟩ : ByteArray), .string (⟨#[45]⟩ : ByteArray), .string (⟨#[47]⟩ : ByteArray), .string (⟨#[37]⟩ : ByteArray), .string (⟨#[61]⟩ : ByteArray), .string (⟨#[60]⟩ : ByteArray), .string (⟨#[62]⟩ : ByteArray), .string (⟨#[123]⟩ : ByteArray), .string (⟨#[125]⟩ : ByteArray), .string (⟨#[58]⟩ : ByteArray)] := (RL.cons (rep_str.2 rfl) rfl (RL.cons (rep_str.2 rfl) rfl (RL.cons (rep_str.2 rfl) rfl (RL.cons (rep_str.2 rfl) rfl (RL.cons (rep_str.2 rfl) rfl (RL.cons (rep_str.2 rfl) rfl (RL.cons (rep_str.2 rfl) rfl (RL.cons (rep_str.2 rfl) rfl (RL.cons (rep_str.2 rfl) rfl (RL.cons (rep_str.2 rfl) rfl (RL.cons (rep_str.2 rfl) rfl (RL.cons (rep_str.2 rfl) rfl (RL.cons (rep_str.2 rfl) rfl (RL.cons (rep_str.2 rfl) rfl (RL.cons (rep_str.2 rfl) rfl (RL.cons (rep_str.2 rfl) rfl (RL.cons (rep_str.2 rfl) rfl (RL.cons (rep_str.2 rfl) rfl (RL.cons (rep_str.2 rfl) rfl (RL.cons (rep_str.2 rfl) rfl RL.nil))))))))))))))))))))
  refine run tt_ok 1 hE rfl fun a hE => ?_; refine c_end ?_; refine xT ?_
  obtain ⟨G4, hg5, hI, h6⟩ := (hI.front 0).giveR (xs := ([(⟨#[124, 124]⟩ : ByteArray), (⟨#[60, 62]⟩ : ByteArray), (⟨#[60, 61]⟩ : ByteArray), (⟨#[62, 61]⟩ : ByteArray), (⟨#[40]⟩ : ByteArray), (⟨#[41]⟩ : ByteArray), (⟨#[44]⟩ : ByteArray), (⟨#[59]⟩ : ByteArray), (⟨#[46]⟩ : ByteArray), (⟨#[42]⟩ : ByteArray), (⟨#[43]⟩ : ByteArray), (⟨#[45]⟩ : ByteArray), (⟨#[47]⟩ : ByteArray), (⟨#[37]⟩ : ByteArray), (⟨#[61]⟩ : ByteArray), (⟨#[60]⟩ : ByteArray), (⟨#[62]⟩ : ByteArray), (⟨#[123]⟩ : ByteArray), (⟨#[125]⟩ : ByteArray), (⟨#[58]⟩ : ByteArray)]).map D.str) (by simp) hR3
  refine c_ret ?_; cases hF; refine r_ret (v := _) hE rfl ⟨_, _, _, rfl, hI.nil, rfl, (some ⟨b1, 0, none⟩), 20, rfl, h6⟩

theorem cl_125 : Callable Try.prog 125 := ⟨_, Try.func125, by kernel_rfl, by kernel_rfl⟩

def ref05_one.C (s : ByteArray → Int → Option (TToken × Int × Int × Int)) : Prop := ∀ (p0 : ByteArray) (p1 : Int) (r : TToken × Int × Int × Int), s p0 p1 = some r → ∀ (w0 : World) (G0 : GH) , Inv w0 G0 [] G0 [] w0 → Calls Try.prog 125 #[.string p0, .int .i64 p1] w0 (Ret w0 G0 [] fun G' L' v => L' = [] ∧ ∃ cs0, v = .tuple ⟨[.agg ⟨cs0⟩, .int .i64 r.2.1, .int .i64 r.2.2.1, .int .i64 r.2.2.2]⟩ ∧ Rep G' r.1.d cs0)
end Go.Proofs.Ytliaopbgkcdibaa
