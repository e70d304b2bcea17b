/- The contracts: what the machine does at a call is what the plain function says. Written by mk.py. -/
import Derived.Test.YtliaopbgkcdibaaCgW0
import Derived.Test.YtliaopbgkcdibaaCgW1
import Derived.Test.YtliaopbgkcdibaaCgW2
set_option linter.unusedVariables false
set_option linter.unusedSimpArgs false
set_option maxRecDepth 100000
namespace Go.Proofs.Ytliaopbgkcdibaa
open Go.RowKit
theorem cl_7 : Callable Try.prog 7 := ⟨_, Try.func7, by kernel_rfl, by kernel_rfl⟩

def law21_WeighPlans.C (s : (List Int) → TPlan → Option Bool) : Prop := ∀ (p0 : List Int) (p1 : TPlan) (r : Bool), s p0 p1 = some r → ∀ (w0 : World) (G0 : GH) (A1 : Option Addr) (c2 : Nat) (cs19 : List Value), Inv w0 G0 [] G0 [] w0 → (Sl G0 A1 c2 1 (p0.map (D.int .i64))) → (Rep G0 p1.d cs19) → Calls Try.prog 7 #[.slice A1 p0.length c2, .agg ⟨cs19⟩] w0 (Ret w0 G0 [] fun G' L' v => L' = [] ∧ v = .bool r)

theorem law21_WeighPlans.ok (k : Nat) : law21_WeighPlans.C (law21_WeighPlans k) := by
  intro p0 p1 r hF w0 G0 A1 c2 cs19 hI h3 hR20
  unfold law21_WeighPlans at hF
  obtain ⟨A4, c5, A7, c8, A10, c11, A13, c14, A16, c17, rfl, h6, h9, h12, h15, h18⟩ := TPlan.inv.1 hR20
  refine calls_of_wp Try.func7 rfl ?_
  have hE : Env _ 31 [(0, .slice A1 p0.length c2), (1, .agg ⟨[.int .i64 p1.Kind, .int .i64 p1.N, .slice A4 p1.Kids.length c5, .slice A7 p1.E.length c8, .slice A10 p1.Keys.length c11, .slice A13 p1.Aggs.length c14, .slice A16 p1.Desc.length c17, .int .i64 p1.Width]⟩)] := Env.start ⟨[.slice A1 p0.length c2, .agg ⟨[.int .i64 p1.Kind, .int .i64 p1.N, .slice A4 p1.Kids.length c5, .slice A7 p1.E.length c8, .slice A10 p1.Keys.length c11, .slice A13 p1.Aggs.length c14, .slice A16 p1.Desc.length c17, .int .i64 p1.Width]⟩]⟩ 29
  refine c_seq ?_; refine c_reg ?_; refine s_box hI hE rfl rfl rfl rfl fun a w b21 hE hI => ?_; refine run tt_ok 1 hE rfl fun a hE => ?_; refine c_end ?_; refine xT ?_; refine c_seq ?_; refine c_seq ?_
  obtain ⟨m46, hF, hR48⟩ := bd hF
  refine c_cut (fun a' w' => ∃ (G44 : GH), G0.le G44 ∧ Env a' 31 [(0, .slice A1 p0.length c2), (3, .pointer (some ⟨b21, 0, none⟩)), (13, .bool m46)] ∧ Inv w0 G0 [] G44 [.blk b21 [.int .i64 p1.Kind, .int .i64 p1.N, .slice A4 p1.Kids.length c5, .slice A7 p1.E.length c8, .slice A10 p1.Keys.length c11, .slice A13 p1.Aggs.length c14, .slice A16 p1.Desc.length c17, .int .i64 p1.Width] 51] w') ?_ ?_
  · refine c_reg ?_; refine s_rt hI hE rfl (f_loadB tt_ok 0 rfl rfl rfl rfl) rfl fun a hE => ?_; obtain ⟨y136, hy137, hF⟩ := bd hF
    refine s_call0 cl_25 hI hE rfl rfl ((law10_WeighPlan.ok k) _ _ _ hy137 _ _ _ hI.pass0 (TPlan.inv.2 ⟨A4, c5, A7, c8, A10, c11, A13, c14, A16, c17, rfl, h6, h9, h12, h15, h18⟩)) rfl ?_; clear hE hI
    rintro a w _ G139 _ ⟨rfl, rfl⟩ hg138 hI hE; refine run tt_ok 2 hE rfl fun a hE => ?_; rcases bool_or (decide ((300 : Int) < y136)) with hb140 | hb140
    · replace hF := ct hb140 hF; have hE := hE.tr (t := 9) rfl hb140; clear hb140; refine run tt_ok 4 hE rfl fun a hE => ?_; refine c_end ?_; refine xT ?_; cases hF; exact ⟨G139, hg138, hE.keep ⟨rfl, rfl, rfl, trivial⟩, hI⟩
    replace hF := cf hb140 hF; have hE := hE.tr (t := 9) rfl hb140; clear hb140; refine run tt_ok 4 hE rfl fun a hE => ?_; refine c_end ?_; refine xT ?_; cases hF; exact ⟨G139, hg138, hE.keep ⟨rfl, rfl, rfl, trivial⟩, hI⟩
  clear hE hI; rintro a w ⟨G44, hg47, hE, hI⟩; clear hF; have hF := hR48; clear hR48; refine xT ?_; refine c_if (b := m46) hE rfl (fun hb135 => ?_) (fun hb135 => ?_)
  · replace hF := ct hb135 hF; refine c_seq ?_; refine c_reg ?_; obtain ⟨y50, hy51, hF⟩ := bd hF; refine s_call0 cl_26 hI hE rfl rfl ((law21_alive.ok k) _ hy51 _ _  hI.pass0 ) rfl ?_; clear hE hI
    rintro a w _ G53 _ ⟨rfl, rfl⟩ hg52 hI hE; refine run tt_ok 1 hE rfl fun a hE => ?_; refine c_end ?_; refine xT ?_; refine c_ret ?_; refine xTr ?_; cases hF; refine r_ret (v := _) hE rfl ⟨_, _, _, rfl, hI.nil, rfl, rfl⟩
  replace hF := cf hb135 hF; refine c_skip ?_; refine xT ?_; refine c_seq ?_; refine c_reg ?_; refine run tt_ok 1 hE rfl fun a hE => ?_; refine s_rt hI hE rfl (f_loadB tt_ok 0 rfl rfl rfl rfl) rfl fun a hE => ?_
  obtain ⟨y70, hy71, hF⟩ := bd hF
  refine s_call0 cl_27 hI hE rfl rfl ((weigh_Plan.ok k) _ _ _ hy71 _ _ _ _ _ hI.pass0 (h3.mono hg47) (TPlan.inv.2 ⟨A4, c5, A7, c8, A10, c11, A13, c14, A16, c17, rfl, (h6.mono hg47), (h9.mono hg47), (h12.mono hg47), (h15.mono hg47), (h18.mono hg47)⟩)) rfl ?_; clear hE hI
  rintro a w _ G73 _ ⟨rfl, rfl⟩ hg72 hI hE; refine run tt_ok 1 hE rfl fun a hE => ?_; refine c_end ?_; refine xT ?_; refine c_seq ?_; obtain ⟨m113, hF, hR115⟩ := bd hF
  refine c_cut (fun a' w' => ∃ (G111 : GH), G73.le G111 ∧ Env a' 31 [(4, .bool m113)] ∧ Inv w0 G0 [] G111 [] w') ?_ ?_; rotate_left
  · clear hE hI; rintro a w ⟨G111, hg114, hE, hI⟩; clear hF; have hF := hR115; clear hR115; refine xT ?_; refine c_ret ?_; cases hF; refine r_ret (v := _) hE rfl ⟨_, _, _, rfl, hI.nil, rfl, rfl⟩
  refine c_reg ?_; refine run tt_ok 2 hE rfl fun a hE => ?_; refine s_rt hI hE rfl (f_loadB tt_ok 0 rfl rfl rfl rfl) rfl fun a hE => ?_; obtain ⟨y116, hy117, hF⟩ := bd hF
  refine s_call0 cl_29 hI hE rfl rfl ((ref21_Plan.ok k) _ _ _ hy117 _ _ _ _ _ hI.pass0 (h3.mono (hg47.trans hg72)) (TPlan.inv.2 ⟨A4, c5, A7, c8, A10, c11, A13, c14, A16, c17, rfl, (h6.mono (hg47.trans hg72)), (h9.mono (hg47.trans hg72)), (h12.mono (hg47.trans hg72)), (h15.mono (hg47.trans hg72)), (h18.mono (hg47.trans hg72))⟩)) rfl ?_; clear hE hI
  rintro a w _ G119 _ ⟨rfl, cshR120, rfl, hR120⟩ hg118 hI hE; obtain rfl := Tref04_Cost.inv.1 hR120; obtain ⟨y121, hy122, hF⟩ := bd hF
  refine s_call0 cl_28 hI hE rfl rfl ((law04_Point.ok k) _ _ hy122 _ _ _ hI.pass0 (Tref04_Cost.inv.2 rfl)) rfl ?_; clear hE hI; rintro a w _ G124 _ ⟨rfl, rfl⟩ hg123 hI hE
  refine s_rt hI hE rfl (f_ceq (A := y70) (B := y121) uf_53 rfl rfl) rfl fun a hE => ?_; refine run tt_ok 1 hE rfl fun a hE => ?_; rcases bool_or (ceq y70 y121) with hb125 | hb125; rotate_left
  · replace hF := cf hb125 hF; have hE := hE.tr (t := 24) rfl hb125; clear hb125; refine run tt_ok 7 hE rfl fun a hE => ?_; refine c_end ?_; refine xT ?_; cases hF
    exact ⟨G124, (hg118.trans hg123), hE.keep ⟨rfl, trivial⟩, (hI.dropN 1 rfl)⟩
  replace hF := ct hb125 hF; have hE := hE.tr (t := 24) rfl hb125; clear hb125; refine run tt_ok 1 hE rfl fun a hE => ?_; obtain ⟨y126, hy127, hF⟩ := bd hF
  refine s_call0 cl_30 hI hE rfl rfl ((plane_Right.ok k) _ _ hy127 _ _  hI.pass0 ) rfl ?_; clear hE hI; rintro a w _ G129 _ ⟨rfl, rfl⟩ hg128 hI hE; refine run tt_ok 2 hE rfl fun a hE => ?_
  rcases bool_or y126 with hb130 | hb130; rotate_left
  · replace hF := cf hb130 hF; have hE := hE.tr (t := 28) rfl hb130; clear hb130; refine run tt_ok 3 hE rfl fun a hE => ?_; refine c_end ?_; refine xT ?_; cases hF
    exact ⟨G129, ((hg118.trans hg123).trans hg128), hE.keep ⟨rfl, trivial⟩, (hI.dropN 1 rfl)⟩
  replace hF := ct hb130 hF; have hE := hE.tr (t := 28) rfl hb130; clear hb130; obtain ⟨y131, hy132, hF⟩ := bd hF; refine s_call0 cl_26 hI hE rfl rfl ((law21_alive.ok k) _ hy132 _ _  hI.pass0 ) rfl ?_; clear hE hI
  rintro a w _ G134 _ ⟨rfl, rfl⟩ hg133 hI hE; refine run tt_ok 2 hE rfl fun a hE => ?_; refine c_end ?_; refine xT ?_; cases hF
  exact ⟨G134, (((hg118.trans hg123).trans hg128).trans hg133), hE.keep ⟨rfl, trivial⟩, (hI.dropN 1 rfl)⟩

theorem cl_31 : Callable Try.prog 31 := ⟨_, Try.func31, by kernel_rfl, by kernel_rfl⟩

def plane_Within.C (s : (Nat × Nat) → (Nat × Nat) → Option Bool) : Prop := ∀ (p0 : (Nat × Nat)) (p1 : (Nat × Nat)) (r : Bool), s p0 p1 = some r → ∀ (w0 : World) (G0 : GH) , Inv w0 G0 [] G0 [] w0 → Calls Try.prog 31 #[.complex .f64 p0.1 p0.2, .complex .f64 p1.1 p1.2] w0 (Ret w0 G0 [] fun G' L' v => L' = [] ∧ v = .bool r)

theorem plane_Within.ok (k : Nat) : plane_Within.C (plane_Within k) := by
  intro p0 p1 r hF w0 G0  hI 
  unfold plane_Within at hF
  refine calls_of_wp Try.func31 rfl ?_
  have hE : Env _ 22 [(0, .complex .f64 p0.1 p0.2), (1, .complex .f64 p1.1 p1.2)] := Env.start ⟨[.complex .f64 p0.1 p0.2, .complex .f64 p1.1 p1.2]⟩ 20
  refine c_seq ?_; refine c_reg ?_; refine run tt_ok 1 hE rfl fun a hE => ?_; refine c_end ?_; refine xT ?_; refine c_seq ?_; obtain ⟨m10, hF, hR12⟩ := bd hF
  refine c_cut (fun a' w' => ∃ (G8 : GH), G0.le G8 ∧ Env a' 22 [(4, .bool m10)] ∧ Inv w0 G0 [] G8 [] w') ?_ ?_; rotate_left
  · clear hE hI; rintro a w ⟨G8, hg11, hE, hI⟩; clear hF; have hF := hR12; clear hR12; refine xT ?_; refine c_ret ?_; cases hF; refine r_ret (v := _) hE rfl ⟨_, _, _, rfl, hI.nil, rfl, rfl⟩
  refine c_reg ?_; refine run tt_ok 2 hE rfl fun a hE => ?_; obtain ⟨y13, hy14, hF⟩ := bd hF; refine s_call0 cl_68 hI hE rfl rfl ((plane_both.ok k) _ _ _ hy14 _ _  hI.pass0 ) rfl ?_; clear hE hI
  rintro a w _ G16 _ ⟨rfl, rfl⟩ hg15 hI hE; refine run tt_ok 1 hE rfl fun a hE => ?_; rcases bool_or y13 with hb17 | hb17; rotate_left
  · replace hF := cf hb17 hF; have hE := hE.tr (t := 8) rfl hb17; clear hb17; refine run tt_ok 14 hE rfl fun a hE => ?_; refine c_end ?_; refine xT ?_; cases hF; exact ⟨G16, hg15, hE.keep ⟨rfl, trivial⟩, hI⟩
  replace hF := ct hb17 hF; have hE := hE.tr (t := 8) rfl hb17; clear hb17; refine run tt_ok 1 hE rfl fun a hE => ?_; refine s_rt hI hE rfl (f_real (A := p0) rfl) rfl fun a hE => ?_; refine run tt_ok 1 hE rfl fun a hE => ?_
  refine s_rt hI hE rfl (f_real (A := p1) rfl) rfl fun a hE => ?_; refine s_rt hI hE rfl (f_fle rfl rfl) rfl fun a hE => ?_; refine run tt_ok 2 hE rfl fun a hE => ?_; rcases bool_or (fle p0.1 p1.1) with hb18 | hb18
  rotate_left
  · replace hF := cf hb18 hF; have hE := hE.tr (t := 15) rfl hb18; clear hb18; refine run tt_ok 7 hE rfl fun a hE => ?_; refine c_end ?_; refine xT ?_; cases hF; exact ⟨G16, hg15, hE.keep ⟨rfl, trivial⟩, hI⟩
  replace hF := ct hb18 hF; have hE := hE.tr (t := 15) rfl hb18; clear hb18; refine run tt_ok 1 hE rfl fun a hE => ?_; refine s_rt hI hE rfl (f_imag (A := p0) rfl) rfl fun a hE => ?_
  refine run tt_ok 1 hE rfl fun a hE => ?_; refine s_rt hI hE rfl (f_imag (A := p1) rfl) rfl fun a hE => ?_; refine s_rt hI hE rfl (f_fle rfl rfl) rfl fun a hE => ?_; refine run tt_ok 2 hE rfl fun a hE => ?_
  refine c_end ?_; refine xT ?_; cases hF; exact ⟨G16, hg15, hE.keep ⟨rfl, trivial⟩, hI⟩

theorem cl_8 : Callable Try.prog 8 := ⟨_, Try.func8, by kernel_rfl, by kernel_rfl⟩

def law21_WeighMore.C (s : (List Int) → TPlan → Int → Int → Option Bool) : Prop := ∀ (p0 : List Int) (p1 : TPlan) (p2 : Int) (p3 : Int) (r : Bool), s p0 p1 p2 p3 = some r → ∀ (w0 : World) (G0 : GH) (A1 : Option Addr) (c2 : Nat) (cs19 : List Value), Inv w0 G0 [] G0 [] w0 → (Sl G0 A1 c2 1 (p0.map (D.int .i64))) → (Rep G0 p1.d cs19) → Calls Try.prog 8 #[.slice A1 p0.length c2, .agg ⟨cs19⟩, .int .i64 p2, .int .i64 p3] w0 (Ret w0 G0 [] fun G' L' v => L' = [] ∧ v = .bool r)

theorem law21_WeighMore.ok (k : Nat) : law21_WeighMore.C (law21_WeighMore k) := by
  intro p0 p1 p2 p3 r hF w0 G0 A1 c2 cs19 hI h3 hR20
  unfold law21_WeighMore at hF
  obtain ⟨A4, c5, A7, c8, A10, c11, A13, c14, A16, c17, rfl, h6, h9, h12, h15, h18⟩ := TPlan.inv.1 hR20
  refine calls_of_wp Try.func8 rfl ?_
  have hE : Env _ 57 [(0, .slice A1 p0.length c2), (1, .agg ⟨[.int .i64 p1.Kind, .int .i64 p1.N, .slice A4 p1.Kids.length c5, .slice A7 p1.E.length c8, .slice A10 p1.Keys.length c11, .slice A13 p1.Aggs.length c14, .slice A16 p1.Desc.length c17, .int .i64 p1.Width]⟩), (2, .int .i64 p2), (3, .int .i64 p3)] := Env.start ⟨[.slice A1 p0.length c2, .agg ⟨[.int .i64 p1.Kind, .int .i64 p1.N, .slice A4 p1.Kids.length c5, .slice A7 p1.E.length c8, .slice A10 p1.Keys.length c11, .slice A13 p1.Aggs.length c14, .slice A16 p1.Desc.length c17, .int .i64 p1.Width]⟩, .int .i64 p2, .int .i64 p3]⟩ 53
  refine c_seq ?_; refine c_reg ?_; refine s_box hI hE rfl rfl rfl rfl fun a w b21 hE hI => ?_; refine run tt_ok 1 hE rfl fun a hE => ?_; refine c_end ?_; refine xT ?_; refine c_seq ?_; refine c_seq ?_
  obtain ⟨m47, hF, hR49⟩ := bd hF
  refine c_cut (fun a' w' => ∃ (G45 : GH), G0.le G45 ∧ Env a' 57 [(0, .slice A1 p0.length c2), (2, .int .i64 p2), (3, .int .i64 p3), (5, .pointer (some ⟨b21, 0, none⟩)), (23, .bool m47)] ∧ Inv w0 G0 [] G45 [.blk b21 [.int .i64 p1.Kind, .int .i64 p1.N, .slice A4 p1.Kids.length c5, .slice A7 p1.E.length c8, .slice A10 p1.Keys.length c11, .slice A13 p1.Aggs.length c14, .slice A16 p1.Desc.length c17, .int .i64 p1.Width] 51] w') ?_ ?_
  · refine c_reg ?_; refine s_rt hI hE rfl (f_loadB tt_ok 0 rfl rfl rfl rfl) rfl fun a hE => ?_; obtain ⟨y162, hy163, hF⟩ := bd hF
    refine s_call0 cl_25 hI hE rfl rfl ((law10_WeighPlan.ok k) _ _ _ hy163 _ _ _ hI.pass0 (TPlan.inv.2 ⟨A4, c5, A7, c8, A10, c11, A13, c14, A16, c17, rfl, h6, h9, h12, h15, h18⟩)) rfl ?_; clear hE hI
    rintro a w _ G165 _ ⟨rfl, rfl⟩ hg164 hI hE; refine run tt_ok 2 hE rfl fun a hE => ?_; rcases bool_or (decide ((300 : Int) < y162)) with hb166 | hb166
    · replace hF := ct hb166 hF; have hE := hE.tr (t := 14) rfl hb166; clear hb166; refine run tt_ok 9 hE rfl fun a hE => ?_; refine c_end ?_; refine xT ?_; cases hF
      exact ⟨G165, hg164, hE.keep ⟨rfl, rfl, rfl, rfl, rfl, trivial⟩, hI⟩
    replace hF := cf hb166 hF; have hE := hE.tr (t := 14) rfl hb166; clear hb166; refine run tt_ok 5 hE rfl fun a hE => ?_; rcases bool_or (decide ((60 : Int) < (p0.length : Int))) with hb167 | hb167
    · replace hF := ct hb167 hF; have hE := hE.tr (t := 19) rfl hb167; clear hb167; refine run tt_ok 4 hE rfl fun a hE => ?_; refine c_end ?_; refine xT ?_; cases hF
      exact ⟨G165, hg164, hE.keep ⟨rfl, rfl, rfl, rfl, rfl, trivial⟩, hI⟩
    replace hF := cf hb167 hF; have hE := hE.tr (t := 19) rfl hb167; clear hb167; refine run tt_ok 4 hE rfl fun a hE => ?_; refine c_end ?_; refine xT ?_; cases hF
    exact ⟨G165, hg164, hE.keep ⟨rfl, rfl, rfl, rfl, rfl, trivial⟩, hI⟩
  clear hE hI; rintro a w ⟨G45, hg48, hE, hI⟩; clear hF; have hF := hR49; clear hR49; refine xT ?_; refine c_if (b := m47) hE rfl (fun hb161 => ?_) (fun hb161 => ?_)
  · replace hF := ct hb161 hF; refine c_seq ?_; refine c_reg ?_; obtain ⟨y51, hy52, hF⟩ := bd hF; refine s_call0 cl_26 hI hE rfl rfl ((law21_alive.ok k) _ hy52 _ _  hI.pass0 ) rfl ?_; clear hE hI
    rintro a w _ G54 _ ⟨rfl, rfl⟩ hg53 hI hE; refine run tt_ok 1 hE rfl fun a hE => ?_; refine c_end ?_; refine xT ?_; refine c_ret ?_; refine xTr ?_; cases hF; refine r_ret (v := _) hE rfl ⟨_, _, _, rfl, hI.nil, rfl, rfl⟩
  replace hF := cf hb161 hF; refine c_skip ?_; refine xT ?_; refine c_seq ?_; refine c_reg ?_; refine run tt_ok 3 hE rfl fun a hE => ?_; obtain ⟨z57, hz58, hF⟩ := bd hF
  refine s_rt hI hE rfl (f_rem rfl rfl hz58) rfl fun a hE => ?_; refine run tt_ok 5 hE rfl fun a hE => ?_; obtain ⟨z59, hz60, hF⟩ := bd hF; refine s_rt hI hE rfl (f_rem rfl rfl hz60) rfl fun a hE => ?_
  refine run tt_ok 1 hE rfl fun a hE => ?_; refine c_end ?_; refine xT ?_; refine c_seq ?_; refine c_reg ?_; refine s_bsl ai_45 hI hE rfl rfl rfl rfl rfl fun a w b65 hE hI => ?_
  have hR67 : RL G45 1 (([] : List Int).map (D.int .i64)) [] := RL.nil; refine run tt_ok 1 hE rfl fun a hE => ?_; obtain ⟨_, hb68, hF⟩ := bd hF
  refine s_appG (f := (D.int .i64)) (xs := ([] : List Int)) (ys := p0) ai_45 0 hI hE rfl rfl (h3.mono hg48) rfl rfl (lim_le hb68) rfl fun a w A69 c70 cs71 hE hR73 hI => ?_; have hR72 := RL.appm hR67 hR73
  refine run tt_ok 1 hE rfl fun a hE => ?_; refine c_end ?_; refine xT ?_; refine c_seq ?_; refine c_reg ?_; refine run tt_ok 4 hE rfl fun a hE => ?_; obtain ⟨y79, hy80, hF⟩ := bd hF
  obtain ⟨b75, o76, cs, hb81, hR78, hA77⟩ := sl_at (h3.mono hg48) (getO_some hy80).1 (getO_some hy80).2; obtain rfl := rep_int.1 hR78; refine s_rt hI hE rfl (f_idx tt_ok hb81 rfl rfl rfl) rfl fun a hE => ?_
  refine s_rt hI hE rfl (f_loadG tt_ok hA77 0 rfl rfl rfl rfl) rfl fun a hE => ?_; refine run tt_ok 2 hE rfl fun a hE => ?_; obtain ⟨y82, hy83, hF⟩ := bd hF; obtain ⟨b88, rfl⟩ := row_ptr 0 hI rfl rfl (getO_some hy83).2
  obtain ⟨ec84, hel85, hrep86, hcs87⟩ := rl_at hR72 (getO_some hy83).2; obtain rfl := rep_int.1 hrep86
  refine s_rt hI hE rfl (f_idx tt_ok (row_idx (getO_some hy83).1 (getO_some hy83).2 b88 1) rfl rfl rfl) rfl fun a hE => ?_
  refine s_storeS (xs := (([] : List Int) ++ p0)) (j := z59) (y' := max y79 p3) tt_ok 0 hI hE rfl rfl hcs87 hel85 (row_len hR72 (getO_some hy83).2) 0 rfl rfl rfl rfl rfl rfl rfl rfl fun a w hE hl89 hI => ?_
  have hR90 : RL G45 1 ((setO (([] : List Int) ++ p0) z59 (max y79 p3)).map (D.int .i64)) (putAt ([] ++ cs71) (z59.toNat * 1) [.int .i64 (max y79 p3)]) := RL.set hR72 (row_lt (getO_some hy83).2) (rep_int.2 rfl) hl89
  have hE := hE.setV (t := 37) rfl (sl_set (xs := (([] : List Int) ++ p0)) (j := z59) (y' := max y79 p3)); have hE := hE.setV (t := 10) rfl (sl_set (xs := (([] : List Int) ++ p0)) (j := z59) (y' := max y79 p3))
  have hE := hE.setV (t := 38) rfl (sl_set (xs := (([] : List Int) ++ p0)) (j := z59) (y' := max y79 p3)); refine c_end ?_; refine xT ?_; refine c_seq ?_
  obtain ⟨G127, hg128, hI, h129⟩ := (hI.front 0).giveR (xs := (setO (([] : List Int) ++ p0) z59 (max y79 p3)).map (D.int .i64)) (by simp) hR90; obtain ⟨m145, hF, hR147⟩ := bd hF
  refine c_cut (fun a' w' => ∃ (G143 : GH), G127.le G143 ∧ Env a' 57 [(8, .bool m145)] ∧ Inv w0 G0 [] G143 [] w') ?_ ?_; rotate_left
  · clear hE hI; rintro a w ⟨G143, hg146, hE, hI⟩; clear hF; have hF := hR147; clear hR147; refine xT ?_; refine c_ret ?_; cases hF; refine r_ret (v := _) hE rfl ⟨_, _, _, rfl, hI.nil, rfl, rfl⟩
  refine c_draw mixed (by kernel_rfl) hI ?_; clear hI; refine runq tt_ok 1 hE rfl fun a hE => ?_; refine q_rt hE rfl (f_loadB tt_ok 0 rfl rfl rfl rfl) rfl fun a hE => ?_; obtain ⟨y148, hy149, hF⟩ := bd hF
  refine q_call cl_27 hE rfl rfl (fun w hI => (weigh_Plan.ok k) _ _ _ hy149 _ _ _ _ _ hI.pass0 (h3.mono (hg48.trans hg128)) (TPlan.inv.2 ⟨A4, c5, A7, c8, A10, c11, A13, c14, A16, c17, rfl, (h6.mono (hg48.trans hg128)), (h9.mono (hg48.trans hg128)), (h12.mono (hg48.trans hg128)), (h15.mono (hg48.trans hg128)), (h18.mono (hg48.trans hg128))⟩)) (fun _ _ _ h => h.2) rfl fun a hE => ?_
  refine runq tt_ok 1 hE rfl fun a hE => ?_; refine q_rt hE rfl (f_loadB tt_ok 0 rfl rfl rfl rfl) rfl fun a hE => ?_; obtain ⟨y151, hy152, hF⟩ := bd hF
  refine q_call cl_27 hE rfl rfl (fun w hI => (weigh_Plan.ok k) _ _ _ hy152 _ _ _ _ _ hI.pass0 h129 (TPlan.inv.2 ⟨A4, c5, A7, c8, A10, c11, A13, c14, A16, c17, rfl, (h6.mono (hg48.trans hg128)), (h9.mono (hg48.trans hg128)), (h12.mono (hg48.trans hg128)), (h15.mono (hg48.trans hg128)), (h18.mono (hg48.trans hg128))⟩)) (fun _ _ _ h => h.2) rfl fun a hE => ?_
  obtain ⟨y154, hy155, hF⟩ := bd hF; refine q_call cl_31 hE rfl rfl (fun w hI => (plane_Within.ok k) _ _ _ hy155 _ _  hI.pass0 ) (fun _ _ _ h => h.2) rfl fun a hE => ?_; refine runq tt_ok 1 hE rfl fun a hE => ?_
  rcases bool_or y154 with hb157 | hb157; rotate_left
  · replace hF := cf hb157 hF; have hE := hE.tr (t := 54) rfl hb157; clear hb157; refine runq tt_ok 3 hE rfl fun a hE => ?_; refine q_end ?_; intro w hI; refine xT ?_; cases hF
    exact ⟨G127, (GH.le.refl _), hE.keep ⟨rfl, trivial⟩, (hI.dropN 1 rfl)⟩
  replace hF := ct hb157 hF; have hE := hE.tr (t := 54) rfl hb157; clear hb157; obtain ⟨y158, hy159, hF⟩ := bd hF
  refine q_call cl_26 hE rfl rfl (fun w hI => (law21_alive.ok k) _ hy159 _ _  hI.pass0 ) (fun _ _ _ h => h.2) rfl fun a hE => ?_; refine runq tt_ok 2 hE rfl fun a hE => ?_; refine q_end ?_; intro w hI; refine xT ?_
  cases hF; exact ⟨G127, (GH.le.refl _), hE.keep ⟨rfl, trivial⟩, (hI.dropN 1 rfl)⟩
end Go.Proofs.Ytliaopbgkcdibaa
