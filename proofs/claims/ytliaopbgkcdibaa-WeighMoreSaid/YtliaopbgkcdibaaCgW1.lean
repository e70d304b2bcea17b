/- The contracts: what the machine does at a call is what the plain function says. Written by mk.py. -/
import Derived.Test.YtliaopbgkcdibaaCgW0
set_option linter.unusedVariables false
set_option linter.unusedSimpArgs false
set_option maxRecDepth 100000
namespace Go.Proofs.Ytliaopbgkcdibaa
open Go.RowKit
theorem cl_59 : Callable Try.prog 59 := ⟨_, Try.func59, by kernel_rfl, by kernel_rfl⟩

def plane_Nest.C (s : (Nat × Nat) → (Nat × Nat) → Option (Nat × Nat)) : Prop := ∀ (p0 : (Nat × Nat)) (p1 : (Nat × Nat)) (r : (Nat × Nat)), s p0 p1 = some r → ∀ (w0 : World) (G0 : GH) , Inv w0 G0 [] G0 [] w0 → Calls Try.prog 59 #[.complex .f64 p0.1 p0.2, .complex .f64 p1.1 p1.2] w0 (Ret w0 G0 [] fun G' L' v => L' = [] ∧ v = .complex .f64 r.1 r.2)

theorem plane_Nest.ok (k : Nat) : plane_Nest.C (plane_Nest k) := by
  intro p0 p1 r hF w0 G0  hI 
  unfold plane_Nest at hF
  refine calls_of_wp Try.func59 rfl ?_
  have hE : Env _ 30 [(0, .complex .f64 p0.1 p0.2), (1, .complex .f64 p1.1 p1.2)] := Env.start ⟨[.complex .f64 p0.1 p0.2, .complex .f64 p1.1 p1.2]⟩ 28
  refine c_seq ?_; refine c_reg ?_; refine run tt_ok 1 hE rfl fun a hE => ?_; refine c_end ?_; refine xT ?_; refine c_seq ?_; refine c_seq ?_; refine c_reg ?_; refine run tt_ok 2 hE rfl fun a hE => ?_
  obtain ⟨y2, hy3, hF⟩ := bd hF; refine s_call0 cl_68 hI hE rfl rfl ((plane_both.ok k) _ _ _ hy3 _ _  hI.pass0 ) rfl ?_; clear hE hI; rintro a w _ G5 _ ⟨rfl, rfl⟩ hg4 hI hE; refine run tt_ok 1 hE rfl fun a hE => ?_
  refine c_end ?_; refine xT ?_; refine c_if (b := !y2) hE rfl (fun hb24 => ?_) (fun hb24 => ?_)
  · replace hF := ct hb24 hF; refine c_seq ?_; refine c_reg ?_; refine run tt_ok 1 hE rfl fun a hE => ?_; refine c_end ?_; refine xT ?_; refine c_ret ?_; refine xTr ?_; cases hF
    refine r_ret (v := _) hE rfl ⟨_, _, _, rfl, hI.nil, rfl, rfl⟩
  replace hF := cf hb24 hF; refine c_skip ?_; refine xT ?_; refine c_seq ?_; refine c_reg ?_; refine run tt_ok 1 hE rfl fun a hE => ?_; refine s_rt hI hE rfl (f_imag (A := p0) rfl) rfl fun a hE => ?_
  refine run tt_ok 1 hE rfl fun a hE => ?_; refine s_rt hI hE rfl (f_real (A := p1) rfl) rfl fun a hE => ?_; obtain ⟨z6, hz7, hF⟩ := bd hF; refine s_rt hI hE rfl (f_fmul rfl rfl hz7) rfl fun a hE => ?_
  obtain ⟨y8, hy9, hF⟩ := bd hF; refine s_call0 cl_82 hI hE rfl rfl ((plane_cut.ok k) _ _ hy9 _ _  hI.pass0 ) rfl ?_; clear hE hI; rintro a w _ G11 _ ⟨rfl, rfl⟩ hg10 hI hE; refine run tt_ok 1 hE rfl fun a hE => ?_
  refine s_rt hI hE rfl (f_imag (A := p0) rfl) rfl fun a hE => ?_; refine run tt_ok 1 hE rfl fun a hE => ?_; refine s_rt hI hE rfl (f_imag (A := p1) rfl) rfl fun a hE => ?_; obtain ⟨z12, hz13, hF⟩ := bd hF
  refine s_rt hI hE rfl (f_fmul rfl rfl hz13) rfl fun a hE => ?_; obtain ⟨y14, hy15, hF⟩ := bd hF; refine s_call0 cl_82 hI hE rfl rfl ((plane_cut.ok k) _ _ hy15 _ _  hI.pass0 ) rfl ?_; clear hE hI
  rintro a w _ G17 _ ⟨rfl, rfl⟩ hg16 hI hE; refine run tt_ok 2 hE rfl fun a hE => ?_; refine c_end ?_; refine xT ?_; refine c_seq ?_; refine c_reg ?_; refine run tt_ok 1 hE rfl fun a hE => ?_
  refine s_rt hI hE rfl (f_real (A := p0) rfl) rfl fun a hE => ?_; refine run tt_ok 1 hE rfl fun a hE => ?_; obtain ⟨z18, hz19, hF⟩ := bd hF; refine s_rt hI hE rfl (f_fadd rfl rfl hz19) rfl fun a hE => ?_
  obtain ⟨y20, hy21, hF⟩ := bd hF; refine s_call0 cl_82 hI hE rfl rfl ((plane_cut.ok k) _ _ hy21 _ _  hI.pass0 ) rfl ?_; clear hE hI; rintro a w _ G23 _ ⟨rfl, rfl⟩ hg22 hI hE; refine run tt_ok 1 hE rfl fun a hE => ?_
  refine s_rt hI hE rfl (f_cplx rfl rfl) rfl fun a hE => ?_; refine run tt_ok 1 hE rfl fun a hE => ?_; refine c_end ?_; refine xT ?_; refine c_ret ?_; cases hF; refine r_ret (v := _) hE rfl ⟨_, _, _, rfl, hI.nil, rfl, rfl⟩

theorem cl_81 : Callable Try.prog 81 := ⟨_, Try.func81, by kernel_rfl, by kernel_rfl⟩

def plane_Worst.C (s : (Nat × Nat) → (Nat × Nat) → Option (Nat × Nat)) : Prop := ∀ (p0 : (Nat × Nat)) (p1 : (Nat × Nat)) (r : (Nat × Nat)), s p0 p1 = some r → ∀ (w0 : World) (G0 : GH) , Inv w0 G0 [] G0 [] w0 → Calls Try.prog 81 #[.complex .f64 p0.1 p0.2, .complex .f64 p1.1 p1.2] w0 (Ret w0 G0 [] fun G' L' v => L' = [] ∧ v = .complex .f64 r.1 r.2)

theorem plane_Worst.ok (k : Nat) : plane_Worst.C (plane_Worst k) := by
  intro p0 p1 r hF w0 G0  hI 
  unfold plane_Worst at hF
  refine calls_of_wp Try.func81 rfl ?_
  have hE : Env _ 20 [(0, .complex .f64 p0.1 p0.2), (1, .complex .f64 p1.1 p1.2)] := Env.start ⟨[.complex .f64 p0.1 p0.2, .complex .f64 p1.1 p1.2]⟩ 18
  refine c_seq ?_; refine c_reg ?_; refine run tt_ok 1 hE rfl fun a hE => ?_; refine c_end ?_; refine xT ?_; refine c_seq ?_; refine c_seq ?_; refine c_reg ?_; refine run tt_ok 2 hE rfl fun a hE => ?_
  obtain ⟨y2, hy3, hF⟩ := bd hF; refine s_call0 cl_68 hI hE rfl rfl ((plane_both.ok k) _ _ _ hy3 _ _  hI.pass0 ) rfl ?_; clear hE hI; rintro a w _ G5 _ ⟨rfl, rfl⟩ hg4 hI hE; refine run tt_ok 1 hE rfl fun a hE => ?_
  refine c_end ?_; refine xT ?_; refine c_if (b := !y2) hE rfl (fun hb10 => ?_) (fun hb10 => ?_)
  · replace hF := ct hb10 hF; refine c_seq ?_; refine c_reg ?_; refine run tt_ok 1 hE rfl fun a hE => ?_; refine c_end ?_; refine xT ?_; refine c_ret ?_; refine xTr ?_; cases hF
    refine r_ret (v := _) hE rfl ⟨_, _, _, rfl, hI.nil, rfl, rfl⟩
  replace hF := cf hb10 hF; refine c_skip ?_; refine xT ?_; refine c_seq ?_; refine c_reg ?_; refine run tt_ok 1 hE rfl fun a hE => ?_; refine s_rt hI hE rfl (f_real (A := p0) rfl) rfl fun a hE => ?_
  refine run tt_ok 1 hE rfl fun a hE => ?_; refine s_rt hI hE rfl (f_real (A := p1) rfl) rfl fun a hE => ?_; obtain ⟨z6, hz7, hF⟩ := bd hF; refine s_rt hI hE rfl (f_fmax rfl rfl hz7) rfl fun a hE => ?_
  refine run tt_ok 1 hE rfl fun a hE => ?_; refine s_rt hI hE rfl (f_imag (A := p0) rfl) rfl fun a hE => ?_; refine run tt_ok 1 hE rfl fun a hE => ?_; refine s_rt hI hE rfl (f_imag (A := p1) rfl) rfl fun a hE => ?_
  obtain ⟨z8, hz9, hF⟩ := bd hF; refine s_rt hI hE rfl (f_fmax rfl rfl hz9) rfl fun a hE => ?_; refine s_rt hI hE rfl (f_cplx rfl rfl) rfl fun a hE => ?_; refine run tt_ok 1 hE rfl fun a hE => ?_; refine c_end ?_
  refine xT ?_; refine c_ret ?_; cases hF; refine r_ret (v := _) hE rfl ⟨_, _, _, rfl, hI.nil, rfl, rfl⟩

theorem cl_56 : Callable Try.prog 56 := ⟨_, Try.func56, by kernel_rfl, by kernel_rfl⟩

def weigh_both.C (s : Int → (Nat × Nat) → (Nat × Nat) → Option (Nat × Nat)) : Prop := ∀ (p0 : Int) (p1 : (Nat × Nat)) (p2 : (Nat × Nat)) (r : (Nat × Nat)), s p0 p1 p2 = some r → ∀ (w0 : World) (G0 : GH) , Inv w0 G0 [] G0 [] w0 → Calls Try.prog 56 #[.int .i64 p0, .complex .f64 p1.1 p1.2, .complex .f64 p2.1 p2.2] w0 (Ret w0 G0 [] fun G' L' v => L' = [] ∧ v = .complex .f64 r.1 r.2)

theorem weigh_both.ok (k : Nat) : weigh_both.C (weigh_both k) := by
  intro p0 p1 p2 r hF w0 G0  hI 
  unfold weigh_both at hF
  refine calls_of_wp Try.func56 rfl ?_
  have hE : Env _ 41 [(0, .int .i64 p0), (1, .complex .f64 p1.1 p1.2), (2, .complex .f64 p2.1 p2.2)] := Env.start ⟨[.int .i64 p0, .complex .f64 p1.1 p1.2, .complex .f64 p2.1 p2.2]⟩ 38
  refine c_seq ?_; refine c_reg ?_; refine run tt_ok 1 hE rfl fun a hE => ?_; refine c_end ?_; refine xT ?_; refine c_seq ?_; refine c_reg ?_; refine run tt_ok 2 hE rfl fun a hE => ?_; obtain ⟨y2, hy3, hF⟩ := bd hF
  refine s_call0 cl_59 hI hE rfl rfl ((plane_Nest.ok k) _ _ _ hy3 _ _  hI.pass0 ) rfl ?_; clear hE hI; rintro a w _ G5 _ ⟨rfl, rfl⟩ hg4 hI hE; obtain ⟨y6, hy7, hF⟩ := bd hF
  refine s_call0 cl_80 hI hE rfl rfl ((plane_Rows.ok k) _ _ hy7 _ _  hI.pass0 ) rfl ?_; clear hE hI; rintro a w _ G9 _ ⟨rfl, rfl⟩ hg8 hI hE; refine run tt_ok 1 hE rfl fun a hE => ?_; refine c_end ?_; refine xT ?_
  refine c_seq ?_; refine c_seq ?_; refine c_reg ?_; refine run tt_ok 1 hE rfl fun a hE => ?_; refine c_end ?_; refine xT ?_; refine c_block ?_; refine c_seq ?_; refine c_reg ?_; refine run tt_ok 2 hE rfl fun a hE => ?_
  refine c_end ?_; refine xT ?_; refine c_if (b := decide (p0 = (6 : Int))) hE rfl (fun hb66 => ?_) (fun hb66 => ?_)
  · replace hF := ct hb66 hF; refine c_seq ?_; refine c_reg ?_; refine run tt_ok 2 hE rfl fun a hE => ?_; obtain ⟨y10, hy11, hF⟩ := bd hF
    refine s_call0 cl_53 hI hE rfl rfl ((weigh_cost.ok k) _ _ _ hy11 _ _  hI.pass0 ) rfl ?_; clear hE hI; rintro a w _ G13 _ ⟨rfl, rfl⟩ hg12 hI hE; refine run tt_ok 1 hE rfl fun a hE => ?_; refine c_end ?_; refine xT ?_
    refine c_ret ?_; refine xBr ?_; refine xTr ?_; cases hF; refine r_ret (v := _) hE rfl ⟨_, _, _, rfl, hI.nil, rfl, rfl⟩
  replace hF := cf hb66 hF; refine c_seq ?_; refine c_reg ?_; refine run tt_ok 2 hE rfl fun a hE => ?_; refine c_end ?_; refine xT ?_; refine c_if (b := decide (p0 = (7 : Int))) hE rfl (fun hb65 => ?_) (fun hb65 => ?_)
  · replace hF := ct hb65 hF; refine c_seq ?_; refine c_reg ?_; refine run tt_ok 3 hE rfl fun a hE => ?_; obtain ⟨y15, hy16, hF⟩ := bd hF
    refine s_call0 cl_53 hI hE rfl rfl ((weigh_cost.ok k) _ _ _ hy16 _ _  hI.pass0 ) rfl ?_; clear hE hI; rintro a w _ G18 _ ⟨rfl, rfl⟩ hg17 hI hE; obtain ⟨y19, hy20, hF⟩ := bd hF
    refine s_call0 cl_81 hI hE rfl rfl ((plane_Worst.ok k) _ _ _ hy20 _ _  hI.pass0 ) rfl ?_; clear hE hI; rintro a w _ G22 _ ⟨rfl, rfl⟩ hg21 hI hE; obtain ⟨y23, hy24, hF⟩ := bd hF
    refine s_call0 cl_59 hI hE rfl rfl ((plane_Nest.ok k) _ _ _ hy24 _ _  hI.pass0 ) rfl ?_; clear hE hI; rintro a w _ G26 _ ⟨rfl, rfl⟩ hg25 hI hE; obtain ⟨y27, hy28, hF⟩ := bd hF
    refine s_call0 cl_80 hI hE rfl rfl ((plane_Rows.ok k) _ _ hy28 _ _  hI.pass0 ) rfl ?_; clear hE hI; rintro a w _ G30 _ ⟨rfl, rfl⟩ hg29 hI hE; obtain ⟨y31, hy32, hF⟩ := bd hF
    refine s_call0 cl_53 hI hE rfl rfl ((weigh_cost.ok k) _ _ _ hy32 _ _  hI.pass0 ) rfl ?_; clear hE hI; rintro a w _ G34 _ ⟨rfl, rfl⟩ hg33 hI hE; refine run tt_ok 1 hE rfl fun a hE => ?_; refine c_end ?_; refine xT ?_
    refine c_ret ?_; refine xBr ?_; refine xTr ?_; cases hF; refine r_ret (v := _) hE rfl ⟨_, _, _, rfl, hI.nil, rfl, rfl⟩
  replace hF := cf hb65 hF; refine c_seq ?_; refine c_seq ?_; refine c_reg ?_; refine run tt_ok 2 hE rfl fun a hE => ?_; refine c_end ?_; refine xT ?_; obtain ⟨m38, hF, hR40⟩ := bd hF
  refine c_cut (fun a' w' => ∃ (G36 : GH), G9.le G36 ∧ Env a' 41 [(1, .complex .f64 p1.1 p1.2), (2, .complex .f64 p2.1 p2.2), (28, .bool m38)] ∧ Inv w0 G0 [] G36 [] w') ?_ ?_
  · refine c_if (b := decide (p0 = (14 : Int))) hE rfl (fun hb64 => ?_) (fun hb64 => ?_)
    · replace hF := ct hb64 hF; refine c_skip ?_; refine xT ?_; cases hF; exact ⟨G9, (GH.le.refl _), hE.keep ⟨rfl, rfl, rfl, trivial⟩, hI⟩
    replace hF := cf hb64 hF; refine c_reg ?_; refine run tt_ok 2 hE rfl fun a hE => ?_; refine c_end ?_; refine xT ?_; cases hF; exact ⟨G9, (GH.le.refl _), hE.keep ⟨rfl, rfl, rfl, trivial⟩, hI⟩
  clear hE hI; rintro a w ⟨G36, hg39, hE, hI⟩; clear hF; have hF := hR40; clear hR40; refine xT ?_; refine c_if (b := m38) hE rfl (fun hb63 => ?_) (fun hb63 => ?_); rotate_left
  · replace hF := cf hb63 hF; refine c_skip ?_; refine xB ?_; refine xT ?_; refine c_seq ?_; refine c_reg ?_; refine run tt_ok 2 hE rfl fun a hE => ?_; obtain ⟨y59, hy60, hF⟩ := bd hF
    refine s_call0 cl_57 hI hE rfl rfl ((plane_Beside.ok k) _ _ _ hy60 _ _  hI.pass0 ) rfl ?_; clear hE hI; rintro a w _ G62 _ ⟨rfl, rfl⟩ hg61 hI hE; refine run tt_ok 1 hE rfl fun a hE => ?_; refine c_end ?_; refine xT ?_
    refine c_ret ?_; cases hF; refine r_ret (v := _) hE rfl ⟨_, _, _, rfl, hI.nil, rfl, rfl⟩
  replace hF := ct hb63 hF; refine c_seq ?_; refine c_reg ?_; refine run tt_ok 2 hE rfl fun a hE => ?_; obtain ⟨y43, hy44, hF⟩ := bd hF
  refine s_call0 cl_57 hI hE rfl rfl ((plane_Beside.ok k) _ _ _ hy44 _ _  hI.pass0 ) rfl ?_; clear hE hI; rintro a w _ G46 _ ⟨rfl, rfl⟩ hg45 hI hE; obtain ⟨y47, hy48, hF⟩ := bd hF
  refine s_call0 cl_80 hI hE rfl rfl ((plane_Rows.ok k) _ _ hy48 _ _  hI.pass0 ) rfl ?_; clear hE hI; rintro a w _ G50 _ ⟨rfl, rfl⟩ hg49 hI hE; refine run tt_ok 1 hE rfl fun a hE => ?_; obtain ⟨y51, hy52, hF⟩ := bd hF
  refine s_call0 cl_80 hI hE rfl rfl ((plane_Rows.ok k) _ _ hy52 _ _  hI.pass0 ) rfl ?_; clear hE hI; rintro a w _ G54 _ ⟨rfl, rfl⟩ hg53 hI hE; obtain ⟨y55, hy56, hF⟩ := bd hF
  refine s_call0 cl_53 hI hE rfl rfl ((weigh_cost.ok k) _ _ _ hy56 _ _  hI.pass0 ) rfl ?_; clear hE hI; rintro a w _ G58 _ ⟨rfl, rfl⟩ hg57 hI hE; refine run tt_ok 1 hE rfl fun a hE => ?_; refine c_end ?_; refine xT ?_
  refine c_ret ?_; refine xBr ?_; refine xTr ?_; cases hF; refine r_ret (v := _) hE rfl ⟨_, _, _, rfl, hI.nil, rfl, rfl⟩

theorem cl_58 : Callable Try.prog 58 := ⟨_, Try.func58, by kernel_rfl, by kernel_rfl⟩

def plane_Steps.C (s : (Nat × Nat) → Option Int) : Prop := ∀ (p0 : (Nat × Nat)) (r : Int), s p0 = some r → ∀ (w0 : World) (G0 : GH) , Inv w0 G0 [] G0 [] w0 → Calls Try.prog 58 #[.complex .f64 p0.1 p0.2] w0 (Ret w0 G0 [] fun G' L' v => L' = [] ∧ v = .int .i64 r)

theorem plane_Steps.ok (k : Nat) : plane_Steps.C (plane_Steps k) := by
  intro p0 r hF w0 G0  hI 
  unfold plane_Steps at hF
  refine calls_of_wp Try.func58 rfl ?_
  have hE : Env _ 9 [(0, .complex .f64 p0.1 p0.2)] := Env.start ⟨[.complex .f64 p0.1 p0.2]⟩ 8
  refine c_seq ?_; refine c_reg ?_; refine run tt_ok 1 hE rfl fun a hE => ?_; refine c_end ?_; refine xT ?_; refine c_seq ?_; refine c_seq ?_; refine c_reg ?_; refine run tt_ok 1 hE rfl fun a hE => ?_
  obtain ⟨y2, hy3, hF⟩ := bd hF; refine s_call0 cl_30 hI hE rfl rfl ((plane_Right.ok k) _ _ hy3 _ _  hI.pass0 ) rfl ?_; clear hE hI; rintro a w _ G5 _ ⟨rfl, rfl⟩ hg4 hI hE; refine run tt_ok 1 hE rfl fun a hE => ?_
  refine c_end ?_; refine xT ?_; refine c_if (b := !y2) hE rfl (fun hb9 => ?_) (fun hb9 => ?_)
  · replace hF := ct hb9 hF; refine c_seq ?_; refine c_reg ?_; refine run tt_ok 1 hE rfl fun a hE => ?_; refine c_end ?_; refine xT ?_; refine c_ret ?_; refine xTr ?_; cases hF
    refine r_ret (v := _) hE rfl ⟨_, _, _, rfl, hI.nil, rfl, rfl⟩
  replace hF := cf hb9 hF; refine c_skip ?_; refine xT ?_; refine c_seq ?_; refine c_reg ?_; refine run tt_ok 1 hE rfl fun a hE => ?_; refine s_rt hI hE rfl (f_real (A := p0) rfl) rfl fun a hE => ?_
  obtain ⟨z7, hz8, hF⟩ := bd hF; refine s_rt hI hE rfl (f_f2i us_99 uk_3 rfl hz8) rfl fun a hE => ?_; refine run tt_ok 1 hE rfl fun a hE => ?_; refine c_end ?_; refine xT ?_; refine c_ret ?_; cases hF
  refine r_ret (v := _) hE rfl ⟨_, _, _, rfl, hI.nil, rfl, rfl⟩

theorem cl_61 : Callable Try.prog 61 := ⟨_, Try.func61, by kernel_rfl, by kernel_rfl⟩

def weigh_nodes.C (s : TPlan → Option (List TNode)) : Prop := ∀ (p0 : TPlan) (r : (List TNode)), s p0 = some r → ∀ (w0 : World) (G0 : GH) (cs16 : List Value), Inv w0 G0 [] G0 [] w0 → (Rep G0 p0.d cs16) → Calls Try.prog 61 #[.agg ⟨cs16⟩] w0 (Ret w0 G0 [] fun G' L' v => L' = [] ∧ ∃ A0 c0, v = .slice A0 r.length c0 ∧ Sl G' A0 c0 5 (r.map TNode.d))

theorem weigh_nodes.ok (k : Nat) : weigh_nodes.C (weigh_nodes k) := by
  intro p0 r hF w0 G0 cs16 hI hR17
  unfold weigh_nodes at hF
  obtain ⟨A1, c2, A4, c5, A7, c8, A10, c11, A13, c14, rfl, h3, h6, h9, h12, h15⟩ := TPlan.inv.1 hR17
  refine calls_of_wp Try.func61 rfl ?_
  have hE : Env _ 23 [(0, .agg ⟨[.int .i64 p0.Kind, .int .i64 p0.N, .slice A1 p0.Kids.length c2, .slice A4 p0.E.length c5, .slice A7 p0.Keys.length c8, .slice A10 p0.Aggs.length c11, .slice A13 p0.Desc.length c14, .int .i64 p0.Width]⟩)] := Env.start ⟨[.agg ⟨[.int .i64 p0.Kind, .int .i64 p0.N, .slice A1 p0.Kids.length c2, .slice A4 p0.E.length c5, .slice A7 p0.Keys.length c8, .slice A10 p0.Aggs.length c11, .slice A13 p0.Desc.length c14, .int .i64 p0.Width]⟩]⟩ 22
  refine c_seq ?_; refine c_reg ?_; refine s_box hI hE rfl rfl rfl rfl fun a w b18 hE hI => ?_; refine run tt_ok 1 hE rfl fun a hE => ?_; refine c_end ?_; refine xT ?_; refine c_seq ?_; refine c_reg ?_
  refine s_bsl ai_47 hI hE rfl rfl rfl rfl rfl fun a w b27 hE hI => ?_; have hR29 : RL G0 5 (([] : List TNode).map TNode.d) [] := RL.nil; refine run tt_ok 1 hE rfl fun a hE => ?_
  refine s_rt hI hE rfl (f_loadB tt_ok 1 rfl rfl rfl rfl) rfl fun a hE => ?_; obtain ⟨_, hb30, hF⟩ := bd hF
  refine s_appG (f := TNode.d) (xs := ([] : List TNode)) (ys := p0.E) ai_47 0 hI hE rfl rfl h6 rfl rfl (lim_le hb30) rfl fun a w A31 c32 cs33 hE hR35 hI => ?_; have hR34 := RL.appm hR29 hR35
  refine run tt_ok 1 hE rfl fun a hE => ?_; refine c_end ?_; refine xT ?_; refine c_seq ?_; refine c_seq ?_; refine c_reg ?_; refine run tt_ok 1 hE rfl fun a hE => ?_
  refine s_rt hI hE rfl (f_loadB tt_ok 1 rfl rfl rfl rfl) rfl fun a hE => ?_; refine run tt_ok 2 hE rfl fun a hE => ?_; refine c_end ?_; refine xT ?_; obtain ⟨o124, hO125, hK126⟩ := bd hF; clear hF
  refine c_cut (fun a' w' => ∃ (s128 : (List TNode)) (G129 : GH) (A131 : Option Addr) (c132 : Nat) (cs133 : List Value), o124 = .go s128 ∧ G0.le G129 ∧ Env a' 23 [(3, .slice A131 s128.length c132)] ∧ Inv w0 G0 [] G129 [.row (.slice A131 s128.length c132) 129 5 s128.length cs133] w' ∧ RL G129 5 (s128.map TNode.d) cs133) ?_ ?_
  rotate_left
  · clear hE hI hO125; rintro a w ⟨s128, G129, A131, c132, cs133, rfl, hg135, hE, hI, hR134⟩; have hF := lrk_go hK126; clear hK126; refine xT ?_; refine c_seq ?_; refine c_reg ?_; refine run tt_ok 2 hE rfl fun a hE => ?_
    refine c_end ?_; refine xT ?_; obtain ⟨G136, hg137, hI, h138⟩ := (hI.front 0).giveR (xs := s128.map TNode.d) (by simp) hR134; refine c_ret ?_; cases hF
    refine r_ret (v := _) hE rfl ⟨_, _, _, rfl, hI.nil, rfl, A131, c132, rfl, h138⟩
  refine c_block ?_
  refine wp_loop_ghost (fun n' a' w' => ∃ (i141 : Nat) (rest143 : List TGather) (s123 : (List TNode)) (G117 : GH) (A119 : Option Addr) (c120 : Nat) (cs121 : List Value), n' = rest143.length ∧ i141 ≤ p0.Aggs.length ∧ p0.Aggs.drop i141 = rest143 ∧ forL (weigh_nodes.b0 k) i141 rest143 s123 = some o124 ∧ G0.le G117 ∧ Env a' 23 [(13, .int .i64 (i141 : Int)), (3, .slice A119 s123.length c120), (11, .slice A10 p0.Aggs.length c11), (12, .int .i64 (p0.Aggs.length : Int))] ∧ Inv w0 G0 [] G117 [.row (.slice A119 s123.length c120) 129 5 s123.length cs121] w' ∧ RL G117 5 (s123.map TNode.d) cs121) _ ⟨0, _, _, G0, A31, c32, ([] ++ cs33), rfl, Nat.zero_le _, rfl, hO125, (GH.le.refl _), hE.keep ⟨rfl, rfl, rfl, rfl, trivial⟩, (hI.pick [0] (by decide) rfl), hR34⟩ ?_
  clear hE hI hO125; rintro m140 a w ⟨i141, rest143, s123, G117, A119, c120, cs121, rfl, hi147, hd144, hO125, hg127, hE, hI, hR122⟩; rcases rest143 with _ | ⟨x142, rest143⟩
  · obtain rfl := forL_nil hO125; have hlt146 := drop_nil hd144 hi147; clear hd144; refine c_seq ?_; refine c_reg ?_; refine run tt_ok 1 hE rfl fun a hE => ?_; refine c_end ?_; refine xT ?_; refine c_seq ?_
    have hE := hE.tr (t := 14) rfl (decide_eq_false (by omega)); refine c_false hE rfl ?_; refine c_exit ?_; refine xTe ?_; refine xTe ?_; refine xBh ?_; refine xT ?_
    exact ⟨_, G117, A119, c120, cs121, rfl, hg127, hE.keep ⟨rfl, trivial⟩, hI, hR122⟩
  obtain ⟨stp139, hF, hO125⟩ := forL_step hO125; obtain ⟨hx145, hd144, hlt146⟩ := drop_cons hd144; unfold weigh_nodes.b0 at hF; refine c_seq ?_; refine c_reg ?_; refine run tt_ok 1 hE rfl fun a hE => ?_; refine c_end ?_
  refine xT ?_; refine c_seq ?_; have hE := hE.tr (t := 14) rfl (decide_eq_true (by omega)); refine c_true hE rfl ?_; refine c_skip ?_; refine xT ?_; refine c_seq ?_; refine c_block ?_; refine c_seq ?_; refine c_reg ?_
  obtain ⟨b152, o153, cs, hb159, hR155, hA154⟩ := sl_at (h12.mono hg127) (Int.natCast_nonneg _) (natIdx hx145); obtain ⟨A156, c157, rfl, h158⟩ := TGather.inv.1 hR155
  refine s_rt hI hE rfl (f_idx tt_ok hb159 rfl rfl rfl) rfl fun a hE => ?_; refine s_rt hI hE rfl (f_loadG tt_ok hA154 0 rfl rfl rfl rfl) rfl fun a hE => ?_; refine s_alloc hI hE rfl z_89 rfl rfl fun a w b160 hE hI => ?_
  refine s_storeB tt_ok 0 hI hE rfl rfl rfl rfl rfl rfl rfl rfl rfl rfl fun a w hE hI => ?_; refine c_end ?_; refine xT ?_; refine c_reg ?_; refine run tt_ok 2 hE rfl fun a hE => ?_
  refine s_rt hI hE rfl (f_loadB tt_ok 0 rfl rfl rfl rfl) rfl fun a hE => ?_; obtain ⟨_, hb169, hF⟩ := bd hF
  refine s_appG (f := TNode.d) (xs := s123) (ys := x142.E) ai_47 1 hI hE rfl rfl h158 rfl rfl (lim_le hb169) rfl fun a w A170 c171 cs172 hE hR174 hI => ?_; have hR173 := RL.appm hR122 hR174
  refine run tt_ok 1 hE rfl fun a hE => ?_; refine c_end ?_; refine xB ?_; refine xT ?_; refine c_reg ?_; refine run tt_ok 2 hE rfl fun a hE => ?_; refine c_end ?_; refine xT ?_; cases hF
  have hE := hE.setI (t := 13) rfl (w64_succ hlt146 (len_le h12))
  exact ⟨rest143.length, Nat.lt_succ_self _, i141 + 1, rest143, _, G117, A170, c171, (cs121 ++ cs172), rfl, hlt146, hd144, hO125, hg127, hE.keep ⟨rfl, rfl, rfl, rfl, trivial⟩, (hI.dropN 1 rfl), hR173⟩

theorem cl_62 : Callable Try.prog 62 := ⟨_, Try.func62, by kernel_rfl, by kernel_rfl⟩

def plane_Then.C (s : (Nat × Nat) → (Nat × Nat) → Option (Nat × Nat)) : Prop := ∀ (p0 : (Nat × Nat)) (p1 : (Nat × Nat)) (r : (Nat × Nat)), s p0 p1 = some r → ∀ (w0 : World) (G0 : GH) , Inv w0 G0 [] G0 [] w0 → Calls Try.prog 62 #[.complex .f64 p0.1 p0.2, .complex .f64 p1.1 p1.2] w0 (Ret w0 G0 [] fun G' L' v => L' = [] ∧ v = .complex .f64 r.1 r.2)

theorem plane_Then.ok (k : Nat) : plane_Then.C (plane_Then k) := by
  intro p0 p1 r hF w0 G0  hI 
  unfold plane_Then at hF
  refine calls_of_wp Try.func62 rfl ?_
  have hE : Env _ 18 [(0, .complex .f64 p0.1 p0.2), (1, .complex .f64 p1.1 p1.2)] := Env.start ⟨[.complex .f64 p0.1 p0.2, .complex .f64 p1.1 p1.2]⟩ 16
  refine c_seq ?_; refine c_reg ?_; refine run tt_ok 1 hE rfl fun a hE => ?_; refine c_end ?_; refine xT ?_; refine c_seq ?_; refine c_seq ?_; refine c_reg ?_; refine run tt_ok 2 hE rfl fun a hE => ?_
  obtain ⟨y2, hy3, hF⟩ := bd hF; refine s_call0 cl_68 hI hE rfl rfl ((plane_both.ok k) _ _ _ hy3 _ _  hI.pass0 ) rfl ?_; clear hE hI; rintro a w _ G5 _ ⟨rfl, rfl⟩ hg4 hI hE; refine run tt_ok 1 hE rfl fun a hE => ?_
  refine c_end ?_; refine xT ?_; refine c_if (b := !y2) hE rfl (fun hb12 => ?_) (fun hb12 => ?_)
  · replace hF := ct hb12 hF; refine c_seq ?_; refine c_reg ?_; refine run tt_ok 1 hE rfl fun a hE => ?_; refine c_end ?_; refine xT ?_; refine c_ret ?_; refine xTr ?_; cases hF
    refine r_ret (v := _) hE rfl ⟨_, _, _, rfl, hI.nil, rfl, rfl⟩
  replace hF := cf hb12 hF; refine c_skip ?_; refine xT ?_; refine c_seq ?_; refine c_reg ?_; refine run tt_ok 1 hE rfl fun a hE => ?_; refine s_rt hI hE rfl (f_real (A := p0) rfl) rfl fun a hE => ?_
  refine run tt_ok 1 hE rfl fun a hE => ?_; refine s_rt hI hE rfl (f_real (A := p1) rfl) rfl fun a hE => ?_; obtain ⟨z6, hz7, hF⟩ := bd hF; refine s_rt hI hE rfl (f_fadd rfl rfl hz7) rfl fun a hE => ?_
  obtain ⟨y8, hy9, hF⟩ := bd hF; refine s_call0 cl_82 hI hE rfl rfl ((plane_cut.ok k) _ _ hy9 _ _  hI.pass0 ) rfl ?_; clear hE hI; rintro a w _ G11 _ ⟨rfl, rfl⟩ hg10 hI hE; refine run tt_ok 1 hE rfl fun a hE => ?_
  refine s_rt hI hE rfl (f_imag (A := p1) rfl) rfl fun a hE => ?_; refine s_rt hI hE rfl (f_cplx rfl rfl) rfl fun a hE => ?_; refine run tt_ok 1 hE rfl fun a hE => ?_; refine c_end ?_; refine xT ?_; refine c_ret ?_
  cases hF; refine r_ret (v := _) hE rfl ⟨_, _, _, rfl, hI.nil, rfl, rfl⟩

theorem cl_27 : Callable Try.prog 27 := ⟨_, Try.func27, by kernel_rfl, by kernel_rfl⟩

def weigh_Plan.C (s : (List Int) → TPlan → Option (Nat × Nat)) : Prop := ∀ (p0 : List Int) (p1 : TPlan) (r : (Nat × Nat)), s p0 p1 = some r → ∀ (w0 : World) (G0 : GH) (A1 : Option Addr) (c2 : Nat) (cs19 : List Value), Inv w0 G0 [] G0 [] w0 → (Sl G0 A1 c2 1 (p0.map (D.int .i64))) → (Rep G0 p1.d cs19) → Calls Try.prog 27 #[.slice A1 p0.length c2, .agg ⟨cs19⟩] w0 (Ret w0 G0 [] fun G' L' v => L' = [] ∧ v = .complex .f64 r.1 r.2)

theorem cl_60 : Callable Try.prog 60 := ⟨_, Try.func60, by kernel_rfl, by kernel_rfl⟩

def weigh_within.C (s : (List Int) → (List TNode) → Option (Nat × Nat)) : Prop := ∀ (p0 : List Int) (p1 : List TNode) (r : (Nat × Nat)), s p0 p1 = some r → ∀ (w0 : World) (G0 : GH) (A1 : Option Addr) (c2 : Nat) (A4 : Option Addr) (c5 : Nat), Inv w0 G0 [] G0 [] w0 → (Sl G0 A1 c2 1 (p0.map (D.int .i64))) → (Sl G0 A4 c5 5 (p1.map TNode.d)) → Calls Try.prog 60 #[.slice A1 p0.length c2, .slice A4 p1.length c5] w0 (Ret w0 G0 [] fun G' L' v => L' = [] ∧ v = .complex .f64 r.1 r.2)

theorem weigh_Plan.F_ok (k : Nat) (s_weigh_Plan : (List Int) → TPlan → Option (Nat × Nat)) (s_weigh_within : (List Int) → (List TNode) → Option (Nat × Nat)) (hs_weigh_Plan : weigh_Plan.C s_weigh_Plan) (hs_weigh_within : weigh_within.C s_weigh_within) : weigh_Plan.C (weigh_Plan.F k s_weigh_Plan s_weigh_within) := by
  intro p0 p1 r hF w0 G0 A1 c2 cs19 hI h3 hR20
  unfold weigh_Plan.F at hF
  obtain ⟨A4, c5, A7, c8, A10, c11, A13, c14, A16, c17, rfl, h6, h9, h12, h15, h18⟩ := TPlan.inv.1 hR20
  refine calls_of_wp Try.func27 rfl ?_
  have hE : Env _ 94 [(0, .slice A1 p0.length c2), (1, .agg ⟨[.int .i64 p1.Kind, .int .i64 p1.N, .slice A4 p1.Kids.length c5, .slice A7 p1.E.length c8, .slice A10 p1.Keys.length c11, .slice A13 p1.Aggs.length c14, .slice A16 p1.Desc.length c17, .int .i64 p1.Width]⟩)] := Env.start ⟨[.slice A1 p0.length c2, .agg ⟨[.int .i64 p1.Kind, .int .i64 p1.N, .slice A4 p1.Kids.length c5, .slice A7 p1.E.length c8, .slice A10 p1.Keys.length c11, .slice A13 p1.Aggs.length c14, .slice A16 p1.Desc.length c17, .int .i64 p1.Width]⟩]⟩ 92
  refine c_seq ?_; refine c_reg ?_; refine s_box hI hE rfl rfl rfl rfl fun a w b21 hE hI => ?_; refine run tt_ok 1 hE rfl fun a hE => ?_; refine c_end ?_; refine xT ?_; refine c_seq ?_; refine c_seq ?_
  refine c_draw mixed (by kernel_rfl) hI ?_; clear hI; refine runq tt_ok 1 hE rfl fun a hE => ?_; refine q_rt hE rfl (f_loadB tt_ok 0 rfl rfl rfl rfl) rfl fun a hE => ?_; refine runq tt_ok 2 hE rfl fun a hE => ?_
  refine q_rt hE rfl (f_loadB tt_ok 0 rfl rfl rfl rfl) rfl fun a hE => ?_; obtain ⟨y28, hy29, hF⟩ := bd hF
  refine q_call cl_52 hE rfl rfl (fun w hI => (weigh_kids.ok k) _ _ hy29 _ _  hI.pass0 ) (fun _ _ _ h => h.2) rfl fun a hE => ?_; refine runq tt_ok 1 hE rfl fun a hE => ?_; refine q_end ?_; intro w hI; refine xT ?_
  refine c_if (b := !decide ((p1.Kids.length : Int) = y28)) hE rfl (fun hb349 => ?_) (fun hb349 => ?_)
  · replace hF := ct hb349 hF; refine c_seq ?_; refine c_reg ?_; refine run tt_ok 1 hE rfl fun a hE => ?_; refine c_end ?_; refine xT ?_; refine c_ret ?_; refine xTr ?_; cases hF
    refine r_ret (v := _) hE rfl ⟨_, _, _, rfl, hI.nil, rfl, rfl⟩
  replace hF := cf hb349 hF; refine c_skip ?_; refine xT ?_; refine c_seq ?_; refine c_seq ?_; refine c_reg ?_; refine run tt_ok 1 hE rfl fun a hE => ?_
  refine s_rt hI hE rfl (f_loadB tt_ok 0 rfl rfl rfl rfl) rfl fun a hE => ?_; refine c_end ?_; refine xT ?_; refine c_block ?_; refine c_seq ?_; refine c_reg ?_; refine run tt_ok 2 hE rfl fun a hE => ?_; refine c_end ?_
  refine xT ?_; refine c_if (b := decide (p1.Kind = (1 : Int))) hE rfl (fun hb348 => ?_) (fun hb348 => ?_)
  · replace hF := ct hb348 hF; refine c_seq ?_; refine c_reg ?_; obtain ⟨y32, hy33, hF⟩ := bd hF; refine s_call0 cl_53 hI hE rfl rfl ((weigh_cost.ok k) _ _ _ hy33 _ _  hI.pass0 ) rfl ?_; clear hE hI
    rintro a w _ G35 _ ⟨rfl, rfl⟩ hg34 hI hE; refine run tt_ok 1 hE rfl fun a hE => ?_; refine c_end ?_; refine xT ?_; refine c_ret ?_; refine xBr ?_; refine xTr ?_; cases hF
    refine r_ret (v := _) hE rfl ⟨_, _, _, rfl, hI.nil, rfl, rfl⟩
  replace hF := cf hb348 hF; refine c_seq ?_; refine c_seq ?_; refine c_reg ?_; refine run tt_ok 2 hE rfl fun a hE => ?_; refine c_end ?_; refine xT ?_; obtain ⟨m39, hF, hR41⟩ := bd hF
  refine c_cut (fun a' w' => ∃ (G37 : GH), G0.le G37 ∧ Env a' 94 [(0, .slice A1 p0.length c2), (3, .pointer (some ⟨b21, 0, none⟩)), (22, .bool m39)] ∧ Inv w0 G0 [] G37 [.blk b21 [.int .i64 p1.Kind, .int .i64 p1.N, .slice A4 p1.Kids.length c5, .slice A7 p1.E.length c8, .slice A10 p1.Keys.length c11, .slice A13 p1.Aggs.length c14, .slice A16 p1.Desc.length c17, .int .i64 p1.Width] 51] w') ?_ ?_
  · refine c_if (b := decide (p1.Kind = (2 : Int))) hE rfl (fun hb347 => ?_) (fun hb347 => ?_)
    · replace hF := ct hb347 hF; refine c_skip ?_; refine xT ?_; cases hF; exact ⟨G0, (GH.le.refl _), hE.keep ⟨rfl, rfl, rfl, trivial⟩, hI⟩
    replace hF := cf hb347 hF; refine c_reg ?_; refine run tt_ok 2 hE rfl fun a hE => ?_; refine c_end ?_; refine xT ?_; cases hF; exact ⟨G0, (GH.le.refl _), hE.keep ⟨rfl, rfl, rfl, trivial⟩, hI⟩
  clear hE hI; rintro a w ⟨G37, hg40, hE, hI⟩; clear hF; have hF := hR41; clear hR41; refine xT ?_; refine c_if (b := m39) hE rfl (fun hb346 => ?_) (fun hb346 => ?_)
  · replace hF := ct hb346 hF; refine c_seq ?_; refine c_draw mixed (by kernel_rfl) hI ?_; clear hI; refine runq tt_ok 2 hE rfl fun a hE => ?_; refine q_rt hE rfl (f_loadB tt_ok 0 rfl rfl rfl rfl) rfl fun a hE => ?_
    obtain ⟨y46, hy47, hF⟩ := bd hF; refine q_call cl_54 hE rfl rfl (fun w hI => (weigh_size.ok k) _ _ _ hy47 _ _ _ _ hI.pass0 (h3.mono hg40)) (fun _ _ _ h => h.2) rfl fun a hE => ?_; refine runq tt_ok 2 hE rfl fun a hE => ?_
    refine q_rt hE rfl (f_loadB tt_ok 0 rfl rfl rfl rfl) rfl fun a hE => ?_; obtain ⟨y49, hy50, hF⟩ := bd hF
    refine q_call cl_54 hE rfl rfl (fun w hI => (weigh_size.ok k) _ _ _ hy50 _ _ _ _ hI.pass0 (h3.mono hg40)) (fun _ _ _ h => h.2) rfl fun a hE => ?_; obtain ⟨y52, hy53, hF⟩ := bd hF
    refine q_call cl_53 hE rfl rfl (fun w hI => (weigh_cost.ok k) _ _ _ hy53 _ _  hI.pass0 ) (fun _ _ _ h => h.2) rfl fun a hE => ?_; refine runq tt_ok 1 hE rfl fun a hE => ?_; refine q_end ?_; intro w hI; refine xT ?_
    refine c_ret ?_; refine xBr ?_; refine xTr ?_; cases hF; refine r_ret (v := _) hE rfl ⟨_, _, _, rfl, hI.nil, rfl, rfl⟩
  replace hF := cf hb346 hF; refine c_skip ?_; refine xB ?_; refine xT ?_; refine c_seq ?_; refine c_reg ?_; refine run tt_ok 2 hE rfl fun a hE => ?_
  refine s_rt hI hE rfl (f_loadB tt_ok 0 rfl rfl rfl rfl) rfl fun a hE => ?_; obtain ⟨y79, hy80, hF⟩ := bd hF; obtain ⟨b75, o76, cs, hb96, hR78, hA77⟩ := sl_at (h6.mono hg40) (getO_some hy80).1 (getO_some hy80).2
  obtain ⟨A81, c82, A84, c85, A87, c88, A90, c91, A93, c94, rfl, h83, h86, h89, h92, h95⟩ := TPlan.inv.1 hR78; refine s_rt hI hE rfl (f_idx tt_ok hb96 rfl rfl rfl) rfl fun a hE => ?_
  refine s_rt hI hE rfl (f_loadG tt_ok hA77 0 rfl rfl rfl rfl) rfl fun a hE => ?_; obtain ⟨y97, hy98, hF⟩ := bd hF
  refine s_call0 cl_27 hI hE rfl rfl (hs_weigh_Plan _ _ _ hy98 _ _ _ _ _ hI.pass0 (h3.mono hg40) (TPlan.inv.2 ⟨A81, c82, A84, c85, A87, c88, A90, c91, A93, c94, rfl, h83, h86, h89, h92, h95⟩)) rfl ?_; clear hE hI
  rintro a w _ G100 _ ⟨rfl, rfl⟩ hg99 hI hE; refine run tt_ok 1 hE rfl fun a hE => ?_; refine c_end ?_; refine xT ?_; refine c_seq ?_; refine c_reg ?_; refine run tt_ok 1 hE rfl fun a hE => ?_
  obtain ⟨y101, hy102, hF⟩ := bd hF; refine s_call0 cl_55 hI hE rfl rfl ((weigh_rowsOf.ok k) _ _ hy102 _ _  hI.pass0 ) rfl ?_; clear hE hI; rintro a w _ G104 _ ⟨rfl, rfl⟩ hg103 hI hE
  refine run tt_ok 1 hE rfl fun a hE => ?_; refine c_end ?_; refine xT ?_; refine c_seq ?_; refine c_seq ?_; refine c_reg ?_; refine run tt_ok 1 hE rfl fun a hE => ?_
  refine s_rt hI hE rfl (f_loadB tt_ok 0 rfl rfl rfl rfl) rfl fun a hE => ?_; refine run tt_ok 2 hE rfl fun a hE => ?_; refine c_end ?_; refine xT ?_; obtain ⟨m173, hF, hR175⟩ := bd hF
  refine c_cut (fun a' w' => ∃ (G170 : GH), G104.le G170 ∧ Env a' 94 [(0, .slice A1 p0.length c2), (3, .pointer (some ⟨b21, 0, none⟩)), (5, .complex .f64 m173.1.1 m173.1.2), (6, .complex .f64 m173.2.1 m173.2.2)] ∧ Inv w0 G0 [] G170 [.blk b21 [.int .i64 p1.Kind, .int .i64 p1.N, .slice A4 p1.Kids.length c5, .slice A7 p1.E.length c8, .slice A10 p1.Keys.length c11, .slice A13 p1.Aggs.length c14, .slice A16 p1.Desc.length c17, .int .i64 p1.Width] 51] w') ?_ ?_
  · refine c_if (b := decide ((p1.Kids.length : Int) = (2 : Int))) hE rfl (fun hb345 => ?_) (fun hb345 => ?_); rotate_left
    · replace hF := cf hb345 hF; refine c_skip ?_; refine xT ?_; cases hF; exact ⟨G104, (GH.le.refl _), hE.keep ⟨rfl, rfl, rfl, rfl, trivial⟩, hI⟩
    replace hF := ct hb345 hF; refine c_seq ?_; refine c_reg ?_; refine run tt_ok 2 hE rfl fun a hE => ?_; refine s_rt hI hE rfl (f_loadB tt_ok 0 rfl rfl rfl rfl) rfl fun a hE => ?_; obtain ⟨y309, hy310, hF⟩ := bd hF
    obtain ⟨b305, o306, cs, hb326, hR308, hA307⟩ := sl_at (h6.mono ((hg40.trans hg99).trans hg103)) (getO_some hy310).1 (getO_some hy310).2
    obtain ⟨A311, c312, A314, c315, A317, c318, A320, c321, A323, c324, rfl, h313, h316, h319, h322, h325⟩ := TPlan.inv.1 hR308; refine s_rt hI hE rfl (f_idx tt_ok hb326 rfl rfl rfl) rfl fun a hE => ?_
    refine s_rt hI hE rfl (f_loadG tt_ok hA307 0 rfl rfl rfl rfl) rfl fun a hE => ?_; obtain ⟨y327, hy328, hF⟩ := bd hF
    refine s_call0 cl_27 hI hE rfl rfl (hs_weigh_Plan _ _ _ hy328 _ _ _ _ _ hI.pass0 (h3.mono ((hg40.trans hg99).trans hg103)) (TPlan.inv.2 ⟨A311, c312, A314, c315, A317, c318, A320, c321, A323, c324, rfl, h313, h316, h319, h322, h325⟩)) rfl ?_; clear hE hI
    rintro a w _ G330 _ ⟨rfl, rfl⟩ hg329 hI hE; refine run tt_ok 1 hE rfl fun a hE => ?_; refine c_end ?_; refine xT ?_; refine c_seq ?_; refine c_draw mixed (by kernel_rfl) hI ?_; clear hI
    refine runq tt_ok 1 hE rfl fun a hE => ?_; refine q_rt hE rfl (f_loadB tt_ok 0 rfl rfl rfl rfl) rfl fun a hE => ?_; refine runq tt_ok 1 hE rfl fun a hE => ?_; obtain ⟨y332, hy333, hF⟩ := bd hF
    refine q_call cl_55 hE rfl rfl (fun w hI => (weigh_rowsOf.ok k) _ _ hy333 _ _  hI.pass0 ) (fun _ _ _ h => h.2) rfl fun a hE => ?_; refine runq tt_ok 1 hE rfl fun a hE => ?_; obtain ⟨y335, hy336, hF⟩ := bd hF
    refine q_call cl_55 hE rfl rfl (fun w hI => (weigh_rowsOf.ok k) _ _ hy336 _ _  hI.pass0 ) (fun _ _ _ h => h.2) rfl fun a hE => ?_; obtain ⟨y338, hy339, hF⟩ := bd hF
    refine q_call cl_56 hE rfl rfl (fun w hI => (weigh_both.ok k) _ _ _ _ hy339 _ _  hI.pass0 ) (fun _ _ _ h => h.2) rfl fun a hE => ?_; refine runq tt_ok 1 hE rfl fun a hE => ?_; refine q_end ?_; intro w hI; refine xT ?_
    refine c_reg ?_; refine run tt_ok 2 hE rfl fun a hE => ?_; obtain ⟨y341, hy342, hF⟩ := bd hF; refine s_call0 cl_57 hI hE rfl rfl ((plane_Beside.ok k) _ _ _ hy342 _ _  hI.pass0 ) rfl ?_; clear hE hI
    rintro a w _ G344 _ ⟨rfl, rfl⟩ hg343 hI hE; refine run tt_ok 1 hE rfl fun a hE => ?_; refine c_end ?_; refine xT ?_; cases hF; exact ⟨G344, (hg329.trans hg343), hE.keep ⟨rfl, rfl, rfl, rfl, trivial⟩, hI⟩
  clear hE hI; rintro a w ⟨G170, hg174, hE, hI⟩; clear hF; have hF := hR175; clear hR175; refine xT ?_; refine c_seq ?_; refine c_reg ?_; refine run tt_ok 1 hE rfl fun a hE => ?_; obtain ⟨y177, hy178, hF⟩ := bd hF
  refine s_call0 cl_58 hI hE rfl rfl ((plane_Steps.ok k) _ _ hy178 _ _  hI.pass0 ) rfl ?_; clear hE hI; rintro a w _ G180 _ ⟨rfl, rfl⟩ hg179 hI hE; refine run tt_ok 1 hE rfl fun a hE => ?_; refine c_end ?_; refine xT ?_
  refine c_seq ?_; refine c_seq ?_; refine c_reg ?_; refine run tt_ok 1 hE rfl fun a hE => ?_; refine s_rt hI hE rfl (f_loadB tt_ok 0 rfl rfl rfl rfl) rfl fun a hE => ?_; refine c_end ?_; refine xT ?_
  obtain ⟨m200, hF, hR202⟩ := bd hF
  refine c_cut (fun a' w' => ∃ (G198 : GH), G180.le G198 ∧ Env a' 94 [(0, .slice A1 p0.length c2), (3, .pointer (some ⟨b21, 0, none⟩)), (5, .complex .f64 m173.1.1 m173.1.2), (6, .complex .f64 m200.1 m200.2), (8, .int .i64 y177)] ∧ Inv w0 G0 [] G198 [.blk b21 [.int .i64 p1.Kind, .int .i64 p1.N, .slice A4 p1.Kids.length c5, .slice A7 p1.E.length c8, .slice A10 p1.Keys.length c11, .slice A13 p1.Aggs.length c14, .slice A16 p1.Desc.length c17, .int .i64 p1.Width] 51] w') ?_ ?_
  · refine c_block ?_; refine c_seq ?_; refine c_reg ?_; refine run tt_ok 2 hE rfl fun a hE => ?_; refine c_end ?_; refine xT ?_; refine c_if (b := decide (p1.Kind = (11 : Int))) hE rfl (fun hb284 => ?_) (fun hb284 => ?_)
    · replace hF := ct hb284 hF; refine c_reg ?_; refine run tt_ok 3 hE rfl fun a hE => ?_; refine s_rt hI hE rfl (f_loadB tt_ok 0 rfl rfl rfl rfl) rfl fun a hE => ?_; refine run tt_ok 1 hE rfl fun a hE => ?_
      obtain ⟨y270, hy271, hF⟩ := bd hF; refine s_call0 cl_53 hI hE rfl rfl ((weigh_cost.ok k) _ _ _ hy271 _ _  hI.pass0 ) rfl ?_; clear hE hI; rintro a w _ G273 _ ⟨rfl, rfl⟩ hg272 hI hE
      refine run tt_ok 1 hE rfl fun a hE => ?_; refine c_end ?_; refine xB ?_; refine xT ?_; cases hF; exact ⟨G273, hg272, hE.keep ⟨rfl, rfl, rfl, rfl, rfl, trivial⟩, hI⟩
    replace hF := cf hb284 hF; refine c_seq ?_; refine c_reg ?_; refine run tt_ok 2 hE rfl fun a hE => ?_; refine c_end ?_; refine xT ?_
    refine c_if (b := decide (p1.Kind = (8 : Int))) hE rfl (fun hb283 => ?_) (fun hb283 => ?_); rotate_left
    · replace hF := cf hb283 hF; refine c_skip ?_; refine xB ?_; refine xT ?_; cases hF; exact ⟨G180, (GH.le.refl _), hE.keep ⟨rfl, rfl, rfl, rfl, rfl, trivial⟩, hI⟩
    replace hF := ct hb283 hF; refine c_seq ?_; refine c_reg ?_; refine run tt_ok 1 hE rfl fun a hE => ?_; refine s_rt hI hE rfl (f_loadB tt_ok 0 rfl rfl rfl rfl) rfl fun a hE => ?_; refine run tt_ok 2 hE rfl fun a hE => ?_
    refine c_end ?_; refine xT ?_; refine c_if (b := decide ((p1.Keys.length : Int) = (0 : Int))) hE rfl (fun hb282 => ?_) (fun hb282 => ?_); rotate_left
    · replace hF := cf hb282 hF; refine c_skip ?_; refine xB ?_; refine xT ?_; cases hF; exact ⟨G180, (GH.le.refl _), hE.keep ⟨rfl, rfl, rfl, rfl, rfl, trivial⟩, hI⟩
    replace hF := ct hb282 hF; refine c_reg ?_; refine run tt_ok 1 hE rfl fun a hE => ?_; obtain ⟨y278, hy279, hF⟩ := bd hF
    refine s_call0 cl_53 hI hE rfl rfl ((weigh_cost.ok k) _ _ _ hy279 _ _  hI.pass0 ) rfl ?_; clear hE hI; rintro a w _ G281 _ ⟨rfl, rfl⟩ hg280 hI hE; refine run tt_ok 1 hE rfl fun a hE => ?_; refine c_end ?_; refine xB ?_
    refine xT ?_; cases hF; exact ⟨G281, hg280, hE.keep ⟨rfl, rfl, rfl, rfl, rfl, trivial⟩, hI⟩
  clear hE hI; rintro a w ⟨G198, hg201, hE, hI⟩; clear hF; have hF := hR202; clear hR202; refine xT ?_; refine c_seq ?_
  refine c_mix [4, 5, 6] [(0, 0), (2, 0), (3, 1), (1, 2), (4, 3), (5, 3), (6, 3), (7, 0)] [.blk b21 [.int .i64 p1.Kind, .int .i64 p1.N, .slice A4 p1.Kids.length c5, .slice A7 p1.E.length c8, .slice A10 p1.Keys.length c11, .slice A13 p1.Aggs.length c14, .slice A16 p1.Desc.length c17, .int .i64 p1.Width] 51] mixed (by kernel_rfl) hI ?_; clear hI; intro w hI
  have hS := hI.sw (Ls := [.blk b21 [.int .i64 p1.Kind, .int .i64 p1.N, .slice A4 p1.Kids.length c5, .slice A7 p1.E.length c8, .slice A10 p1.Keys.length c11, .slice A13 p1.Aggs.length c14, .slice A16 p1.Desc.length c17, .int .i64 p1.Width] 51]) [0] (by decide) rfl (GH.le.refl _)
  refine mix_run tt_ok 2 hE rfl fun a hE => ?_; refine d_ld hS hE rfl rfl (RT.sw fun _ => (f_loadB tt_ok 0 rfl rfl rfl rfl)) rfl fun a hE => ?_; refine d_eff rfl ?_; obtain ⟨y242, hy243, hF⟩ := bd hF
  refine s_call0 cl_53 hI hE rfl rfl ((weigh_cost.ok k) _ _ _ hy243 _ _  hI.pass0 ) rfl ?_; clear hE hI; rintro a w _ G245 _ ⟨rfl, rfl⟩ hg244 hI hE
  have hS := hI.sw (Ls := [.blk b21 [.int .i64 p1.Kind, .int .i64 p1.N, .slice A4 p1.Kids.length c5, .slice A7 p1.E.length c8, .slice A10 p1.Keys.length c11, .slice A13 p1.Aggs.length c14, .slice A16 p1.Desc.length c17, .int .i64 p1.Width] 51]) [0] (by decide) rfl hg244; refine d_next hS ?_
  refine d_last rfl ?_; obtain ⟨y246, hy247, hF⟩ := bd hF
  refine s_call0 cl_61 hI hE rfl rfl ((weigh_nodes.ok k) _ _ hy247 _ _ _ hI.pass0 (TPlan.inv.2 ⟨A4, c5, A7, c8, A10, c11, A13, c14, A16, c17, rfl, (h6.mono ((((((hg40.trans hg99).trans hg103).trans hg174).trans hg179).trans hg201).trans hg244)), (h9.mono ((((((hg40.trans hg99).trans hg103).trans hg174).trans hg179).trans hg201).trans hg244)), (h12.mono ((((((hg40.trans hg99).trans hg103).trans hg174).trans hg179).trans hg201).trans hg244)), (h15.mono ((((((hg40.trans hg99).trans hg103).trans hg174).trans hg179).trans hg201).trans hg244)), (h18.mono ((((((hg40.trans hg99).trans hg103).trans hg174).trans hg179).trans hg201).trans hg244))⟩)) rfl ?_; clear hE hI
  rintro a w _ G249 _ ⟨rfl, A250, c251, rfl, h252⟩ hg248 hI hE; refine d_nextl ?_; refine d_last rfl ?_; obtain ⟨y253, hy254, hF⟩ := bd hF
  refine s_call0 cl_60 hI hE rfl rfl (hs_weigh_within _ _ _ hy254 _ _ _ _ _ _ hI.pass0 (h3.mono (((((((hg40.trans hg99).trans hg103).trans hg174).trans hg179).trans hg201).trans hg244).trans hg248)) h252) rfl ?_; clear hE hI
  rintro a w _ G256 _ ⟨rfl, rfl⟩ hg255 hI hE; refine d_nextl ?_; refine d_last rfl ?_; obtain ⟨y257, hy258, hF⟩ := bd hF; refine s_call0 cl_59 hI hE rfl rfl ((plane_Nest.ok k) _ _ _ hy258 _ _  hI.pass0 ) rfl ?_; clear hE hI
  rintro a w _ G260 _ ⟨rfl, rfl⟩ hg259 hI hE; refine d_nextl ?_; refine mix_run tt_ok 1 hE rfl fun a hE => ?_; refine d_end ?_; refine xT ?_; refine c_seq ?_; refine c_reg ?_; refine run tt_ok 2 hE rfl fun a hE => ?_
  obtain ⟨y261, hy262, hF⟩ := bd hF; refine s_call0 cl_62 hI hE rfl rfl ((plane_Then.ok k) _ _ _ hy262 _ _  hI.pass0 ) rfl ?_; clear hE hI; rintro a w _ G264 _ ⟨rfl, rfl⟩ hg263 hI hE
  refine run tt_ok 1 hE rfl fun a hE => ?_; obtain ⟨y265, hy266, hF⟩ := bd hF; refine s_call0 cl_62 hI hE rfl rfl ((plane_Then.ok k) _ _ _ hy266 _ _  hI.pass0 ) rfl ?_; clear hE hI
  rintro a w _ G268 _ ⟨rfl, rfl⟩ hg267 hI hE; refine run tt_ok 1 hE rfl fun a hE => ?_; refine c_end ?_; refine xT ?_; refine c_ret ?_; cases hF; refine r_ret (v := _) hE rfl ⟨_, _, _, rfl, hI.nil, rfl, rfl⟩

theorem weigh_within.F_ok (k : Nat) (s_weigh_Plan : (List Int) → TPlan → Option (Nat × Nat)) (s_weigh_within : (List Int) → (List TNode) → Option (Nat × Nat)) (hs_weigh_Plan : weigh_Plan.C s_weigh_Plan) (hs_weigh_within : weigh_within.C s_weigh_within) : weigh_within.C (weigh_within.F k s_weigh_Plan s_weigh_within) := by
  intro p0 p1 r hF w0 G0 A1 c2 A4 c5 hI h3 h6
  unfold weigh_within.F at hF
  refine calls_of_wp Try.func60 rfl ?_
  have hE : Env _ 39 [(0, .slice A1 p0.length c2), (1, .slice A4 p1.length c5)] := Env.start ⟨[.slice A1 p0.length c2, .slice A4 p1.length c5]⟩ 37
  refine c_seq ?_; refine c_reg ?_; refine run tt_ok 1 hE rfl fun a hE => ?_; refine c_end ?_; refine xT ?_; refine c_seq ?_; refine c_reg ?_; refine run tt_ok 1 hE rfl fun a hE => ?_; refine c_end ?_; refine xT ?_
  refine c_seq ?_; refine c_seq ?_; refine c_reg ?_; refine run tt_ok 3 hE rfl fun a hE => ?_; refine c_end ?_; refine xT ?_; obtain ⟨o519, hO520, hK521⟩ := bd hF; clear hF
  refine c_cut (fun a' w' => ∃ (s523 : (Nat × Nat)) (G524 : GH), o519 = .go s523 ∧ G0.le G524 ∧ Env a' 39 [(5, .complex .f64 s523.1 s523.2)] ∧ Inv w0 G0 [] G524 [] w') ?_ ?_; rotate_left
  · clear hE hI hO520; rintro a w ⟨s523, G524, rfl, hg526, hE, hI⟩; have hF := lrk_go hK521; clear hK521; refine xT ?_; refine c_seq ?_; refine c_reg ?_; refine run tt_ok 1 hE rfl fun a hE => ?_
    obtain ⟨y528, hy529, hF⟩ := bd hF; refine s_call0 cl_58 hI hE rfl rfl ((plane_Steps.ok k) _ _ hy529 _ _  hI.pass0 ) rfl ?_; clear hE hI; rintro a w _ G531 _ ⟨rfl, rfl⟩ hg530 hI hE; obtain ⟨y532, hy533, hF⟩ := bd hF
    refine s_call0 cl_53 hI hE rfl rfl ((weigh_cost.ok k) _ _ _ hy533 _ _  hI.pass0 ) rfl ?_; clear hE hI; rintro a w _ G535 _ ⟨rfl, rfl⟩ hg534 hI hE; refine run tt_ok 1 hE rfl fun a hE => ?_; refine c_end ?_; refine xT ?_
    refine c_ret ?_; cases hF; refine r_ret (v := _) hE rfl ⟨_, _, _, rfl, hI.nil, rfl, rfl⟩
  refine c_block ?_
  refine wp_loop_ghost (fun n' a' w' => ∃ (i538 : Nat) (rest540 : List TNode) (s518 : (Nat × Nat)) (G516 : GH), n' = rest540.length ∧ i538 ≤ p1.length ∧ p1.drop i538 = rest540 ∧ forL (weigh_within.b0 k s_weigh_Plan s_weigh_within p0) i538 rest540 s518 = some o519 ∧ G0.le G516 ∧ Env a' 39 [(12, .int .i64 (i538 : Int)), (0, .slice A1 p0.length c2), (5, .complex .f64 s518.1 s518.2), (10, .slice A4 p1.length c5), (11, .int .i64 (p1.length : Int))] ∧ Inv w0 G0 [] G516 [] w') _ ⟨0, _, _, G0, rfl, Nat.zero_le _, rfl, hO520, (GH.le.refl _), hE.keep ⟨rfl, rfl, rfl, rfl, rfl, trivial⟩, hI⟩ ?_
  clear hE hI hO520; rintro m537 a w ⟨i538, rest540, s518, G516, rfl, hi544, hd541, hO520, hg522, hE, hI⟩; rcases rest540 with _ | ⟨x539, rest540⟩
  · obtain rfl := forL_nil hO520; have hlt543 := drop_nil hd541 hi544; clear hd541; refine c_seq ?_; refine c_reg ?_; refine run tt_ok 1 hE rfl fun a hE => ?_; refine c_end ?_; refine xT ?_; refine c_seq ?_
    have hE := hE.tr (t := 13) rfl (decide_eq_false (by omega)); refine c_false hE rfl ?_; refine c_exit ?_; refine xTe ?_; refine xTe ?_; refine xBh ?_; refine xT ?_; exact ⟨_, G516, rfl, hg522, hE.keep ⟨rfl, trivial⟩, hI⟩
  obtain ⟨stp536, hF, hO520⟩ := forL_step hO520; obtain ⟨hx542, hd541, hlt543⟩ := drop_cons hd541; unfold weigh_within.b0 at hF; refine c_seq ?_; refine c_reg ?_; refine run tt_ok 1 hE rfl fun a hE => ?_; refine c_end ?_
  refine xT ?_; refine c_seq ?_; have hE := hE.tr (t := 13) rfl (decide_eq_true (by omega)); refine c_true hE rfl ?_; refine c_skip ?_; refine xT ?_; refine c_seq ?_; refine c_block ?_; refine c_seq ?_; refine c_reg ?_
  obtain ⟨b552, o553, cs, hb562, hR555, hA554⟩ := sl_at (h6.mono hg522) (Int.natCast_nonneg _) (natIdx hx542); obtain ⟨A556, c557, A559, c560, rfl, h558, h561⟩ := TNode.inv.1 hR555
  refine s_rt hI hE rfl (f_idx tt_ok hb562 rfl rfl rfl) rfl fun a hE => ?_; refine s_rt hI hE rfl (f_loadG tt_ok hA554 0 rfl rfl rfl rfl) rfl fun a hE => ?_; refine s_alloc hI hE rfl z_129 rfl rfl fun a w b563 hE hI => ?_
  refine s_storeB tt_ok 0 hI hE rfl rfl rfl rfl rfl rfl rfl rfl rfl rfl fun a w hE hI => ?_; refine c_end ?_; refine xT ?_; refine c_seq ?_; refine c_seq ?_; refine c_reg ?_; refine run tt_ok 1 hE rfl fun a hE => ?_
  refine s_rt hI hE rfl (f_loadB tt_ok 0 rfl rfl rfl rfl) rfl fun a hE => ?_; refine run tt_ok 2 hE rfl fun a hE => ?_; refine c_end ?_; refine xT ?_; obtain ⟨o704, hO705, hK706⟩ := bd hF; clear hF
  refine c_cut (fun a' w' => ∃ (s708 : (Nat × Nat)) (G709 : GH), o704 = .go s708 ∧ G516.le G709 ∧ Env a' 39 [(0, .slice A1 p0.length c2), (5, .complex .f64 s708.1 s708.2), (7, .pointer (some ⟨b563, 0, none⟩)), (10, .slice A4 p1.length c5), (11, .int .i64 (p1.length : Int)), (12, .int .i64 (i538 : Int))] ∧ Inv w0 G0 [] G709 [.blk b563 [.int .i64 x539.Kind, .int .i64 x539.N, .string x539.S, .slice A556 x539.Kids.length c557, .slice A559 x539.Plans.length c560] 129] w') ?_ ?_
  rotate_left
  · clear hE hI hO705; rintro a w ⟨s708, G709, rfl, hg711, hE, hI⟩; have hF := lrk_go hK706; clear hK706; refine xT ?_; refine c_reg ?_; refine run tt_ok 3 hE rfl fun a hE => ?_
    refine s_rt hI hE rfl (f_loadB tt_ok 0 rfl rfl rfl rfl) rfl fun a hE => ?_; obtain ⟨y716, hy717, hF⟩ := bd hF
    refine s_call0 cl_60 hI hE rfl rfl (hs_weigh_within _ _ _ hy717 _ _ _ _ _ _ hI.pass0 (h3.mono (hg522.trans hg711)) (h558.mono hg711)) rfl ?_; clear hE hI; rintro a w _ G719 _ ⟨rfl, rfl⟩ hg718 hI hE
    obtain ⟨y720, hy721, hF⟩ := bd hF; refine s_call0 cl_57 hI hE rfl rfl ((plane_Beside.ok k) _ _ _ hy721 _ _  hI.pass0 ) rfl ?_; clear hE hI; rintro a w _ G723 _ ⟨rfl, rfl⟩ hg722 hI hE
    refine run tt_ok 1 hE rfl fun a hE => ?_; refine c_end ?_; refine xB ?_; refine xT ?_; refine c_reg ?_; refine run tt_ok 2 hE rfl fun a hE => ?_; refine c_end ?_; refine xT ?_; cases hF
    have hE := hE.setI (t := 12) rfl (w64_succ hlt543 (len_le h6))
    exact ⟨rest540.length, Nat.lt_succ_self _, i538 + 1, rest540, _, G723, rfl, hlt543, hd541, hO520, (((hg522.trans hg711).trans hg718).trans hg722), hE.keep ⟨rfl, rfl, rfl, rfl, rfl, trivial⟩, (hI.dropN 1 rfl)⟩
  refine c_block ?_
  refine wp_loop_ghost (fun n' a' w' => ∃ (i726 : Nat) (rest728 : List TPlan) (s703 : (Nat × Nat)) (G701 : GH), n' = rest728.length ∧ i726 ≤ x539.Plans.length ∧ x539.Plans.drop i726 = rest728 ∧ forL (weigh_within.b1 k s_weigh_Plan s_weigh_within p0) i726 rest728 s703 = some o704 ∧ G516.le G701 ∧ Env a' 39 [(19, .int .i64 (i726 : Int)), (0, .slice A1 p0.length c2), (5, .complex .f64 s703.1 s703.2), (7, .pointer (some ⟨b563, 0, none⟩)), (10, .slice A4 p1.length c5), (11, .int .i64 (p1.length : Int)), (12, .int .i64 (i538 : Int)), (17, .slice A559 x539.Plans.length c560), (18, .int .i64 (x539.Plans.length : Int))] ∧ Inv w0 G0 [] G701 [.blk b563 [.int .i64 x539.Kind, .int .i64 x539.N, .string x539.S, .slice A556 x539.Kids.length c557, .slice A559 x539.Plans.length c560] 129] w') _ ⟨0, _, _, G516, rfl, Nat.zero_le _, rfl, hO705, (GH.le.refl _), hE.keep ⟨rfl, rfl, rfl, rfl, rfl, rfl, rfl, rfl, rfl, trivial⟩, hI⟩ ?_
  clear hE hI hO705; rintro m725 a w ⟨i726, rest728, s703, G701, rfl, hi732, hd729, hO705, hg707, hE, hI⟩; rcases rest728 with _ | ⟨x727, rest728⟩
  · obtain rfl := forL_nil hO705; have hlt731 := drop_nil hd729 hi732; clear hd729; refine c_seq ?_; refine c_reg ?_; refine run tt_ok 1 hE rfl fun a hE => ?_; refine c_end ?_; refine xT ?_; refine c_seq ?_
    have hE := hE.tr (t := 20) rfl (decide_eq_false (by omega)); refine c_false hE rfl ?_; refine c_exit ?_; refine xTe ?_; refine xTe ?_; refine xBh ?_; refine xT ?_
    exact ⟨_, G701, rfl, hg707, hE.keep ⟨rfl, rfl, rfl, rfl, rfl, rfl, trivial⟩, hI⟩
  obtain ⟨stp724, hF, hO705⟩ := forL_step hO705; obtain ⟨hx730, hd729, hlt731⟩ := drop_cons hd729; unfold weigh_within.b1 at hF; refine c_seq ?_; refine c_reg ?_; refine run tt_ok 1 hE rfl fun a hE => ?_; refine c_end ?_
  refine xT ?_; refine c_seq ?_; have hE := hE.tr (t := 20) rfl (decide_eq_true (by omega)); refine c_true hE rfl ?_; refine c_skip ?_; refine xT ?_; refine c_seq ?_; refine c_block ?_; refine c_seq ?_; refine c_reg ?_
  obtain ⟨b749, o750, cs, hb768, hR752, hA751⟩ := sl_at (h561.mono hg707) (Int.natCast_nonneg _) (natIdx hx730)
  obtain ⟨A753, c754, A756, c757, A759, c760, A762, c763, A765, c766, rfl, h755, h758, h761, h764, h767⟩ := TPlan.inv.1 hR752; refine s_rt hI hE rfl (f_idx tt_ok hb768 rfl rfl rfl) rfl fun a hE => ?_
  refine s_rt hI hE rfl (f_loadG tt_ok hA751 0 rfl rfl rfl rfl) rfl fun a hE => ?_; refine s_alloc hI hE rfl z_51 rfl rfl fun a w b769 hE hI => ?_
  refine s_storeB tt_ok 0 hI hE rfl rfl rfl rfl rfl rfl rfl rfl rfl rfl fun a w hE hI => ?_; refine c_end ?_; refine xT ?_; refine c_reg ?_; refine run tt_ok 2 hE rfl fun a hE => ?_
  refine s_rt hI hE rfl (f_loadB tt_ok 0 rfl rfl rfl rfl) rfl fun a hE => ?_; obtain ⟨y786, hy787, hF⟩ := bd hF
  refine s_call0 cl_27 hI hE rfl rfl (hs_weigh_Plan _ _ _ hy787 _ _ _ _ _ hI.pass0 (h3.mono (hg522.trans hg707)) (TPlan.inv.2 ⟨A753, c754, A756, c757, A759, c760, A762, c763, A765, c766, rfl, h755, h758, h761, h764, h767⟩)) rfl ?_; clear hE hI
  rintro a w _ G789 _ ⟨rfl, rfl⟩ hg788 hI hE; obtain ⟨y790, hy791, hF⟩ := bd hF; refine s_call0 cl_57 hI hE rfl rfl ((plane_Beside.ok k) _ _ _ hy791 _ _  hI.pass0 ) rfl ?_; clear hE hI
  rintro a w _ G793 _ ⟨rfl, rfl⟩ hg792 hI hE; refine run tt_ok 1 hE rfl fun a hE => ?_; refine c_end ?_; refine xB ?_; refine xT ?_; refine c_reg ?_; refine run tt_ok 2 hE rfl fun a hE => ?_; refine c_end ?_; refine xT ?_
  cases hF; have hE := hE.setI (t := 19) rfl (w64_succ hlt731 (len_le h561))
  exact ⟨rest728.length, Nat.lt_succ_self _, i726 + 1, rest728, _, G793, rfl, hlt731, hd729, hO705, ((hg707.trans hg788).trans hg792), hE.keep ⟨rfl, rfl, rfl, rfl, rfl, rfl, rfl, rfl, rfl, trivial⟩, (hI.dropN 1 rfl)⟩

theorem weigh_Plan.ok_all : ∀ k, weigh_Plan.C (weigh_Plan k) ∧ weigh_within.C (weigh_within k)
  | 0 => ⟨(fun _ _ _ h => (by cases h)), (fun _ _ _ h => (by cases h))⟩
  | k + 1 => by
    have h := weigh_Plan.ok_all k
    exact ⟨weigh_Plan.F_ok k (weigh_Plan k) (weigh_within k) h.1 h.2, weigh_within.F_ok k (weigh_Plan k) (weigh_within k) h.1 h.2⟩

theorem weigh_Plan.ok (k : Nat) : weigh_Plan.C (weigh_Plan k) := (weigh_Plan.ok_all k).1

theorem weigh_within.ok (k : Nat) : weigh_within.C (weigh_within k) := (weigh_Plan.ok_all k).2

theorem cl_26 : Callable Try.prog 26 := ⟨_, Try.func26, by kernel_rfl, by kernel_rfl⟩

def law21_alive.C (s : Option Bool) : Prop := ∀  (r : Bool), s  = some r → ∀ (w0 : World) (G0 : GH) , Inv w0 G0 [] G0 [] w0 → Calls Try.prog 26 #[] w0 (Ret w0 G0 [] fun G' L' v => L' = [] ∧ v = .bool r)

theorem law21_alive.ok (k : Nat) : law21_alive.C (law21_alive k) := by
  intro  r hF w0 G0  hI 
  unfold law21_alive at hF
  refine calls_of_wp Try.func26 rfl ?_
  have hE : Env _ 10 [] := Env.start ⟨[]⟩ 10
  refine c_seq ?_; refine c_reg ?_; refine run tt_ok 1 hE rfl fun a hE => ?_; refine c_end ?_; refine xT ?_; refine c_seq ?_; refine c_reg ?_; refine s_rt hI hE rfl (f_build tt_ok rfl z_51 rfl rfl) rfl fun a hE => ?_
  refine s_rt hI hE rfl (f_build tt_ok rfl z_51 rfl rfl) rfl fun a hE => ?_; refine s_bsl ai_46 hI hE rfl rfl rfl rfl rfl fun a w b1 hE hI => ?_
  have hR3 : RL G0 8 ([(TPlan.mk (2 : Int) (0 : Int) [] [] [] [] [] (0 : Int)), (TPlan.mk (2 : Int) (1 : Int) [] [] [] [] [] (0 : Int))].map TPlan.d) [.int .i64 (2 : Int), .int .i64 (0 : Int), .slice none 0 0, .slice none 0 0, .slice none 0 0, .slice none 0 0, .slice none 0 0, .int .i64 (0 : Int), .int .i64 (2 : Int), .int .i64 (1 : Int), .slice none 0 0, .slice none 0 0, .slice none 0 0, .slice none 0 0, .slice none 0 0, .int .i64 (0 : Int)] := (RL.cons (TPlan.inv.2 ⟨none, 0, none, 0, none, 0, none, 0, none, 0, rfl, (Sl.nil _ _ _ _ (Nat.zero_le _)), (Sl.nil _ _ _ _ (Nat.zero_le _)), (Sl.nil _ _ _ _ (Nat.zero_le _)), (Sl.nil _ _ _ _ (Nat.zero_le _)), (Sl.nil _ _ _ _ (Nat.zero_le _))⟩) rfl (RL.cons (TPlan.inv.2 ⟨none, 0, none, 0, none, 0, none, 0, none, 0, rfl, (Sl.nil _ _ _ _ (Nat.zero_le _)), (Sl.nil _ _ _ _ (Nat.zero_le _)), (Sl.nil _ _ _ _ (Nat.zero_le _)), (Sl.nil _ _ _ _ (Nat.zero_le _)), (Sl.nil _ _ _ _ (Nat.zero_le _))⟩) rfl RL.nil))
  refine s_rt hI hE rfl (f_build tt_ok rfl z_51 rfl rfl) rfl fun a hE => ?_; refine s_alloc hI hE rfl z_51 rfl rfl fun a w b4 hE hI => ?_
  refine s_storeB tt_ok 0 hI hE rfl rfl rfl rfl rfl rfl rfl rfl rfl rfl fun a w hE hI => ?_; refine c_end ?_; refine xT ?_; refine c_seq ?_; refine c_reg ?_
  refine s_bsl ai_45 hI hE rfl rfl rfl rfl rfl fun a w b22 hE hI => ?_
  have hR24 : RL G0 1 ([(10 : Int), (5 : Int)].map (D.int .i64)) [.int .i64 (10 : Int), .int .i64 (5 : Int)] := (RL.cons (rep_int.2 rfl) rfl (RL.cons (rep_int.2 rfl) rfl RL.nil))
  refine s_rt hI hE rfl (f_loadB tt_ok 1 rfl rfl rfl rfl) rfl fun a hE => ?_; obtain ⟨G25, hg26, hI, h27⟩ := (hI.front 0).giveR (xs := ([(10 : Int), (5 : Int)]).map (D.int .i64)) (by simp) hR24
  obtain ⟨G28, hg29, hI, h30⟩ := (hI.front 1).giveR (xs := ([(TPlan.mk (2 : Int) (0 : Int) [] [] [] [] [] (0 : Int)), (TPlan.mk (2 : Int) (1 : Int) [] [] [] [] [] (0 : Int))]).map TPlan.d) (by simp) (hR3.mono hg26)
  obtain ⟨y31, hy32, hF⟩ := bd hF
  refine s_call0 cl_27 hI hE rfl rfl ((weigh_Plan.ok k) _ _ _ hy32 _ _ _ _ _ hI.pass0 (h27.mono hg29) (TPlan.inv.2 ⟨(some ⟨b1, 0, none⟩), 2, none, 0, none, 0, none, 0, none, 0, rfl, h30, (Sl.nil _ _ _ _ (Nat.zero_le _)), (Sl.nil _ _ _ _ (Nat.zero_le _)), (Sl.nil _ _ _ _ (Nat.zero_le _)), (Sl.nil _ _ _ _ (Nat.zero_le _))⟩)) rfl ?_; clear hE hI
  rintro a w _ G34 _ ⟨rfl, rfl⟩ hg33 hI hE; refine s_rt hI hE rfl (f_ceq (A := y31) (B := ((4634274385308418048 : Nat), (4632233691727265792 : Nat))) uf_53 rfl rfl) rfl fun a hE => ?_
  refine run tt_ok 1 hE rfl fun a hE => ?_; refine c_end ?_; refine xT ?_; refine c_ret ?_; cases hF; refine r_ret (v := _) hE rfl ⟨_, _, _, rfl, hI.nil, rfl, rfl⟩

theorem cl_28 : Callable Try.prog 28 := ⟨_, Try.func28, by kernel_rfl, by kernel_rfl⟩

def law04_Point.C (s : Tref04_Cost → Option (Nat × Nat)) : Prop := ∀ (p0 : Tref04_Cost) (r : (Nat × Nat)), s p0 = some r → ∀ (w0 : World) (G0 : GH) (cs1 : List Value), Inv w0 G0 [] G0 [] w0 → (Rep G0 p0.d cs1) → Calls Try.prog 28 #[.agg ⟨cs1⟩] w0 (Ret w0 G0 [] fun G' L' v => L' = [] ∧ v = .complex .f64 r.1 r.2)

theorem law04_Point.ok (k : Nat) : law04_Point.C (law04_Point k) := by
  intro p0 r hF w0 G0 cs1 hI hR2
  unfold law04_Point at hF
  obtain rfl := Tref04_Cost.inv.1 hR2
  refine calls_of_wp Try.func28 rfl ?_
  have hE : Env _ 12 [(0, .agg ⟨[.int .i64 p0.S, .int .i64 p0.R, .bool p0.Bad]⟩)] := Env.start ⟨[.agg ⟨[.int .i64 p0.S, .int .i64 p0.R, .bool p0.Bad]⟩]⟩ 11
  refine c_seq ?_; refine c_reg ?_; refine s_box hI hE rfl rfl rfl rfl fun a w b3 hE hI => ?_; refine run tt_ok 1 hE rfl fun a hE => ?_; refine c_end ?_; refine xT ?_; refine c_seq ?_; refine c_seq ?_; refine c_reg ?_
  refine run tt_ok 1 hE rfl fun a hE => ?_; refine s_rt hI hE rfl (f_loadB tt_ok 0 rfl rfl rfl rfl) rfl fun a hE => ?_; refine c_end ?_; refine xT ?_; refine c_if (b := p0.Bad) hE rfl (fun hb7 => ?_) (fun hb7 => ?_)
  · replace hF := ct hb7 hF; refine c_seq ?_; refine c_reg ?_; refine run tt_ok 1 hE rfl fun a hE => ?_; refine c_end ?_; refine xT ?_; refine c_ret ?_; refine xTr ?_; cases hF
    refine r_ret (v := _) hE rfl ⟨_, _, _, rfl, hI.nil, rfl, rfl⟩
  replace hF := cf hb7 hF; refine c_skip ?_; refine xT ?_; refine c_seq ?_; refine c_reg ?_; refine run tt_ok 1 hE rfl fun a hE => ?_; refine s_rt hI hE rfl (f_loadB tt_ok 0 rfl rfl rfl rfl) rfl fun a hE => ?_
  refine s_rt hI hE rfl (f_i2f us_3 uf_99 rfl) rfl fun a hE => ?_; refine run tt_ok 1 hE rfl fun a hE => ?_; refine s_rt hI hE rfl (f_loadB tt_ok 0 rfl rfl rfl rfl) rfl fun a hE => ?_
  refine s_rt hI hE rfl (f_i2f us_3 uf_99 rfl) rfl fun a hE => ?_; refine s_rt hI hE rfl (f_cplx rfl rfl) rfl fun a hE => ?_; refine run tt_ok 1 hE rfl fun a hE => ?_; refine c_end ?_; refine xT ?_; refine c_ret ?_
  cases hF; refine r_ret (v := _) hE rfl ⟨_, _, _, rfl, hI.nil, rfl, rfl⟩
end Go.Proofs.Ytliaopbgkcdibaa
