/- The contracts: what the machine does at a call is what the plain function says. Written by mk.py. -/
import Derived.Test.YtliaopbgkcdibaaCtW
set_option linter.unusedVariables false
set_option linter.unusedSimpArgs false
set_option maxRecDepth 100000
namespace Go.Proofs.Ytliaopbgkcdibaa
open Go.RowKit
theorem cl_63 : Callable Try.prog 63 := ⟨_, Try.func63, by kernel_rfl, by kernel_rfl⟩

def ref21_arity.C (s : Int → Option Int) : Prop := ∀ (p0 : Int) (r : Int), s p0 = some r → ∀ (w0 : World) (G0 : GH) , Inv w0 G0 [] G0 [] w0 → Calls Try.prog 63 #[.int .i64 p0] w0 (Ret w0 G0 [] fun G' L' v => L' = [] ∧ v = .int .i64 r)

theorem ref21_arity.ok (k : Nat) : ref21_arity.C (ref21_arity k) := by
  intro p0 r hF w0 G0  hI 
  unfold ref21_arity at hF
  refine calls_of_wp Try.func63 rfl ?_
  have hE : Env _ 37 [(0, .int .i64 p0)] := Env.start ⟨[.int .i64 p0]⟩ 36
  refine c_seq ?_; refine c_reg ?_; refine run tt_ok 1 hE rfl fun a hE => ?_; refine c_end ?_; refine xT ?_; refine c_seq ?_; refine c_seq ?_; obtain ⟨m4, hF, hR6⟩ := bd hF
  refine c_cut (fun a' w' => ∃ (G2 : GH), G0.le G2 ∧ Env a' 37 [(0, .int .i64 p0), (8, .bool m4)] ∧ Inv w0 G0 [] G2 [] w') ?_ ?_
  · refine c_reg ?_; refine run tt_ok 3 hE rfl fun a hE => ?_; rcases bool_or (decide ((1 : Int) ≤ p0)) with hb32 | hb32
    · replace hF := ct hb32 hF; have hE := hE.tr (t := 5) rfl hb32; clear hb32; refine run tt_ok 3 hE rfl fun a hE => ?_; refine c_end ?_; refine xT ?_; cases hF; exact ⟨G0, (GH.le.refl _), hE.keep ⟨rfl, rfl, trivial⟩, hI⟩
    replace hF := cf hb32 hF; have hE := hE.tr (t := 5) rfl hb32; clear hb32; refine run tt_ok 3 hE rfl fun a hE => ?_; refine c_end ?_; refine xT ?_; cases hF; exact ⟨G0, (GH.le.refl _), hE.keep ⟨rfl, rfl, trivial⟩, hI⟩
  clear hE hI; rintro a w ⟨G2, hg5, hE, hI⟩; clear hF; have hF := hR6; clear hR6; refine xT ?_; refine c_if (b := m4) hE rfl (fun hb31 => ?_) (fun hb31 => ?_)
  · replace hF := ct hb31 hF; refine c_seq ?_; refine c_reg ?_; refine run tt_ok 1 hE rfl fun a hE => ?_; refine c_end ?_; refine xT ?_; refine c_ret ?_; refine xTr ?_; cases hF
    refine r_ret (v := _) hE rfl ⟨_, _, _, rfl, hI.nil, rfl, rfl⟩
  replace hF := cf hb31 hF; refine c_skip ?_; refine xT ?_; refine c_seq ?_; refine c_seq ?_; obtain ⟨m12, hF, hR14⟩ := bd hF
  refine c_cut (fun a' w' => ∃ (G10 : GH), G2.le G10 ∧ Env a' 37 [(0, .int .i64 p0), (22, .bool m12)] ∧ Inv w0 G0 [] G10 [] w') ?_ ?_
  · refine c_reg ?_; refine run tt_ok 3 hE rfl fun a hE => ?_; rcases bool_or (decide (p0 = (4 : Int))) with hb28 | hb28
    · replace hF := ct hb28 hF; have hE := hE.tr (t := 11) rfl hb28; clear hb28; refine run tt_ok 11 hE rfl fun a hE => ?_; refine c_end ?_; refine xT ?_; cases hF; exact ⟨G2, (GH.le.refl _), hE.keep ⟨rfl, rfl, trivial⟩, hI⟩
    replace hF := cf hb28 hF; have hE := hE.tr (t := 11) rfl hb28; clear hb28; refine run tt_ok 4 hE rfl fun a hE => ?_; rcases bool_or (decide (p0 = (5 : Int))) with hb29 | hb29
    · replace hF := ct hb29 hF; have hE := hE.tr (t := 15) rfl hb29; clear hb29; refine run tt_ok 7 hE rfl fun a hE => ?_; refine c_end ?_; refine xT ?_; cases hF; exact ⟨G2, (GH.le.refl _), hE.keep ⟨rfl, rfl, trivial⟩, hI⟩
    replace hF := cf hb29 hF; have hE := hE.tr (t := 15) rfl hb29; clear hb29; refine run tt_ok 3 hE rfl fun a hE => ?_; rcases bool_or (decide ((8 : Int) ≤ p0)) with hb30 | hb30
    · replace hF := ct hb30 hF; have hE := hE.tr (t := 18) rfl hb30; clear hb30; refine run tt_ok 4 hE rfl fun a hE => ?_; refine c_end ?_; refine xT ?_; cases hF; exact ⟨G2, (GH.le.refl _), hE.keep ⟨rfl, rfl, trivial⟩, hI⟩
    replace hF := cf hb30 hF; have hE := hE.tr (t := 18) rfl hb30; clear hb30; refine run tt_ok 4 hE rfl fun a hE => ?_; refine c_end ?_; refine xT ?_; cases hF; exact ⟨G2, (GH.le.refl _), hE.keep ⟨rfl, rfl, trivial⟩, hI⟩
  clear hE hI; rintro a w ⟨G10, hg13, hE, hI⟩; clear hF; have hF := hR14; clear hR14; refine xT ?_; refine c_if (b := m12) hE rfl (fun hb27 => ?_) (fun hb27 => ?_)
  · replace hF := ct hb27 hF; refine c_seq ?_; refine c_reg ?_; refine run tt_ok 1 hE rfl fun a hE => ?_; refine c_end ?_; refine xT ?_; refine c_ret ?_; refine xTr ?_; cases hF
    refine r_ret (v := _) hE rfl ⟨_, _, _, rfl, hI.nil, rfl, rfl⟩
  replace hF := cf hb27 hF; refine c_skip ?_; refine xT ?_; refine c_seq ?_; refine c_seq ?_; obtain ⟨m20, hF, hR22⟩ := bd hF
  refine c_cut (fun a' w' => ∃ (G18 : GH), G10.le G18 ∧ Env a' 37 [(36, .bool m20)] ∧ Inv w0 G0 [] G18 [] w') ?_ ?_; rotate_left
  · clear hE hI; rintro a w ⟨G18, hg21, hE, hI⟩; clear hF; have hF := hR22; clear hR22; refine xT ?_; refine c_if (b := m20) hE rfl (fun hb23 => ?_) (fun hb23 => ?_)
    · replace hF := ct hb23 hF; refine c_seq ?_; refine c_reg ?_; refine run tt_ok 1 hE rfl fun a hE => ?_; refine c_end ?_; refine xT ?_; refine c_ret ?_; refine xTr ?_; cases hF
      refine r_ret (v := _) hE rfl ⟨_, _, _, rfl, hI.nil, rfl, rfl⟩
    replace hF := cf hb23 hF; refine c_skip ?_; refine xT ?_; refine c_seq ?_; refine c_reg ?_; refine run tt_ok 1 hE rfl fun a hE => ?_; refine c_end ?_; refine xT ?_; refine c_ret ?_; cases hF
    refine r_ret (v := _) hE rfl ⟨_, _, _, rfl, hI.nil, rfl, rfl⟩
  refine c_reg ?_; refine run tt_ok 3 hE rfl fun a hE => ?_; rcases bool_or (decide (p0 = (6 : Int))) with hb24 | hb24
  · replace hF := ct hb24 hF; have hE := hE.tr (t := 25) rfl hb24; clear hb24; refine run tt_ok 11 hE rfl fun a hE => ?_; refine c_end ?_; refine xT ?_; cases hF; exact ⟨G10, (GH.le.refl _), hE.keep ⟨rfl, trivial⟩, hI⟩
  replace hF := cf hb24 hF; have hE := hE.tr (t := 25) rfl hb24; clear hb24; refine run tt_ok 4 hE rfl fun a hE => ?_; rcases bool_or (decide (p0 = (7 : Int))) with hb25 | hb25
  · replace hF := ct hb25 hF; have hE := hE.tr (t := 29) rfl hb25; clear hb25; refine run tt_ok 7 hE rfl fun a hE => ?_; refine c_end ?_; refine xT ?_; cases hF; exact ⟨G10, (GH.le.refl _), hE.keep ⟨rfl, trivial⟩, hI⟩
  replace hF := cf hb25 hF; have hE := hE.tr (t := 29) rfl hb25; clear hb25; refine run tt_ok 3 hE rfl fun a hE => ?_; rcases bool_or (decide ((12 : Int) ≤ p0)) with hb26 | hb26
  · replace hF := ct hb26 hF; have hE := hE.tr (t := 32) rfl hb26; clear hb26; refine run tt_ok 4 hE rfl fun a hE => ?_; refine c_end ?_; refine xT ?_; cases hF; exact ⟨G10, (GH.le.refl _), hE.keep ⟨rfl, trivial⟩, hI⟩
  replace hF := cf hb26 hF; have hE := hE.tr (t := 32) rfl hb26; clear hb26; refine run tt_ok 4 hE rfl fun a hE => ?_; refine c_end ?_; refine xT ?_; cases hF; exact ⟨G10, (GH.le.refl _), hE.keep ⟨rfl, trivial⟩, hI⟩

theorem cl_64 : Callable Try.prog 64 := ⟨_, Try.func64, by kernel_rfl, by kernel_rfl⟩

def ref21_add.C (s : Int → Int → Option Int) : Prop := ∀ (p0 : Int) (p1 : Int) (r : Int), s p0 p1 = some r → ∀ (w0 : World) (G0 : GH) , Inv w0 G0 [] G0 [] w0 → Calls Try.prog 64 #[.int .i64 p0, .int .i64 p1] w0 (Ret w0 G0 [] fun G' L' v => L' = [] ∧ v = .int .i64 r)

theorem ref21_add.ok (k : Nat) : ref21_add.C (ref21_add k) := by
  intro p0 p1 r hF w0 G0  hI 
  unfold ref21_add at hF
  refine calls_of_wp Try.func64 rfl ?_
  have hE : Env _ 12 [(0, .int .i64 p0), (1, .int .i64 p1)] := Env.start ⟨[.int .i64 p0, .int .i64 p1]⟩ 10
  refine c_seq ?_; refine c_reg ?_; refine run tt_ok 1 hE rfl fun a hE => ?_; refine c_end ?_; refine xT ?_; refine c_seq ?_; refine c_seq ?_; refine c_reg ?_; refine run tt_ok 4 hE rfl fun a hE => ?_; refine c_end ?_
  refine xT ?_; refine c_if (b := decide ((1099511627776 : Int) < (w64 (p0 + p1)))) hE rfl (fun hb1 => ?_) (fun hb1 => ?_)
  · replace hF := ct hb1 hF; refine c_seq ?_; refine c_reg ?_; refine run tt_ok 1 hE rfl fun a hE => ?_; refine c_end ?_; refine xT ?_; refine c_ret ?_; refine xTr ?_; cases hF
    refine r_ret (v := _) hE rfl ⟨_, _, _, rfl, hI.nil, rfl, rfl⟩
  replace hF := cf hb1 hF; refine c_skip ?_; refine xT ?_; refine c_seq ?_; refine c_reg ?_; refine run tt_ok 4 hE rfl fun a hE => ?_; refine c_end ?_; refine xT ?_; refine c_ret ?_; cases hF
  refine r_ret (v := _) hE rfl ⟨_, _, _, rfl, hI.nil, rfl, rfl⟩

theorem cl_65 : Callable Try.prog 65 := ⟨_, Try.func65, by kernel_rfl, by kernel_rfl⟩

def ref21_times.C (s : Int → Int → Option Int) : Prop := ∀ (p0 : Int) (p1 : Int) (r : Int), s p0 p1 = some r → ∀ (w0 : World) (G0 : GH) , Inv w0 G0 [] G0 [] w0 → Calls Try.prog 65 #[.int .i64 p0, .int .i64 p1] w0 (Ret w0 G0 [] fun G' L' v => L' = [] ∧ v = .int .i64 r)

theorem ref21_times.ok (k : Nat) : ref21_times.C (ref21_times k) := by
  intro p0 p1 r hF w0 G0  hI 
  unfold ref21_times at hF
  refine calls_of_wp Try.func65 rfl ?_
  have hE : Env _ 18 [(0, .int .i64 p0), (1, .int .i64 p1)] := Env.start ⟨[.int .i64 p0, .int .i64 p1]⟩ 16
  refine c_seq ?_; refine c_reg ?_; refine run tt_ok 1 hE rfl fun a hE => ?_; refine c_end ?_; refine xT ?_; refine c_seq ?_; refine c_seq ?_; obtain ⟨m4, hF, hR6⟩ := bd hF
  refine c_cut (fun a' w' => ∃ (G2 : GH), G0.le G2 ∧ Env a' 18 [(0, .int .i64 p0), (1, .int .i64 p1), (10, .bool m4)] ∧ Inv w0 G0 [] G2 [] w') ?_ ?_
  · refine c_reg ?_; refine run tt_ok 3 hE rfl fun a hE => ?_; rcases bool_or (decide (p0 = (0 : Int))) with hb12 | hb12
    · replace hF := ct hb12 hF; have hE := hE.tr (t := 7) rfl hb12; clear hb12; refine run tt_ok 3 hE rfl fun a hE => ?_; refine c_end ?_; refine xT ?_; cases hF; exact ⟨G0, (GH.le.refl _), hE.keep ⟨rfl, rfl, rfl, trivial⟩, hI⟩
    replace hF := cf hb12 hF; have hE := hE.tr (t := 7) rfl hb12; clear hb12; refine run tt_ok 3 hE rfl fun a hE => ?_; refine c_end ?_; refine xT ?_; cases hF; exact ⟨G0, (GH.le.refl _), hE.keep ⟨rfl, rfl, rfl, trivial⟩, hI⟩
  clear hE hI; rintro a w ⟨G2, hg5, hE, hI⟩; clear hF; have hF := hR6; clear hR6; refine xT ?_; refine c_if (b := m4) hE rfl (fun hb11 => ?_) (fun hb11 => ?_)
  · replace hF := ct hb11 hF; refine c_seq ?_; refine c_reg ?_; refine run tt_ok 1 hE rfl fun a hE => ?_; refine c_end ?_; refine xT ?_; refine c_ret ?_; refine xTr ?_; cases hF
    refine r_ret (v := _) hE rfl ⟨_, _, _, rfl, hI.nil, rfl, rfl⟩
  replace hF := cf hb11 hF; refine c_skip ?_; refine xT ?_; refine c_seq ?_; refine c_seq ?_; refine c_reg ?_; refine run tt_ok 2 hE rfl fun a hE => ?_; obtain ⟨z8, hz9, hF⟩ := bd hF
  refine s_rt hI hE rfl (f_quo rfl rfl hz9) rfl fun a hE => ?_; refine run tt_ok 1 hE rfl fun a hE => ?_; refine c_end ?_; refine xT ?_; refine c_if (b := decide (z8 < p1)) hE rfl (fun hb10 => ?_) (fun hb10 => ?_)
  · replace hF := ct hb10 hF; refine c_seq ?_; refine c_reg ?_; refine run tt_ok 1 hE rfl fun a hE => ?_; refine c_end ?_; refine xT ?_; refine c_ret ?_; refine xTr ?_; cases hF
    refine r_ret (v := _) hE rfl ⟨_, _, _, rfl, hI.nil, rfl, rfl⟩
  replace hF := cf hb10 hF; refine c_skip ?_; refine xT ?_; refine c_seq ?_; refine c_reg ?_; refine run tt_ok 4 hE rfl fun a hE => ?_; refine c_end ?_; refine xT ?_; refine c_ret ?_; cases hF
  refine r_ret (v := _) hE rfl ⟨_, _, _, rfl, hI.nil, rfl, rfl⟩

theorem cl_29 : Callable Try.prog 29 := ⟨_, Try.func29, by kernel_rfl, by kernel_rfl⟩

def ref21_Plan.C (s : (List Int) → TPlan → Option Tref04_Cost) : Prop := ∀ (p0 : List Int) (p1 : TPlan) (r : Tref04_Cost), s p0 p1 = some r → ∀ (w0 : World) (G0 : GH) (A1 : Option Addr) (c2 : Nat) (cs19 : List Value), Inv w0 G0 [] G0 [] w0 → (Sl G0 A1 c2 1 (p0.map (D.int .i64))) → (Rep G0 p1.d cs19) → Calls Try.prog 29 #[.slice A1 p0.length c2, .agg ⟨cs19⟩] w0 (Ret w0 G0 [] fun G' L' v => L' = [] ∧ ∃ cs0, v = .agg ⟨cs0⟩ ∧ Rep G' r.d cs0)

theorem cl_66 : Callable Try.prog 66 := ⟨_, Try.func66, by kernel_rfl, by kernel_rfl⟩

def ref21_inside.C (s : (List Int) → (List TNode) → Option Int) : Prop := ∀ (p0 : List Int) (p1 : List TNode) (r : Int), s p0 p1 = some r → ∀ (w0 : World) (G0 : GH) (A1 : Option Addr) (c2 : Nat) (A4 : Option Addr) (c5 : Nat), Inv w0 G0 [] G0 [] w0 → (Sl G0 A1 c2 1 (p0.map (D.int .i64))) → (Sl G0 A4 c5 5 (p1.map TNode.d)) → Calls Try.prog 66 #[.slice A1 p0.length c2, .slice A4 p1.length c5] w0 (Ret w0 G0 [] fun G' L' v => L' = [] ∧ v = .int .i64 r)

theorem ref21_Plan.F_ok (k : Nat) (s_ref21_Plan : (List Int) → TPlan → Option Tref04_Cost) (s_ref21_inside : (List Int) → (List TNode) → Option Int) (hs_ref21_Plan : ref21_Plan.C s_ref21_Plan) (hs_ref21_inside : ref21_inside.C s_ref21_inside) : ref21_Plan.C (ref21_Plan.F k s_ref21_Plan s_ref21_inside) := by
  intro p0 p1 r hF w0 G0 A1 c2 cs19 hI h3 hR20
  unfold ref21_Plan.F at hF
  obtain ⟨A4, c5, A7, c8, A10, c11, A13, c14, A16, c17, rfl, h6, h9, h12, h15, h18⟩ := TPlan.inv.1 hR20
  refine calls_of_wp Try.func29 rfl ?_
  have hE : Env _ 165 [(0, .slice A1 p0.length c2), (1, .agg ⟨[.int .i64 p1.Kind, .int .i64 p1.N, .slice A4 p1.Kids.length c5, .slice A7 p1.E.length c8, .slice A10 p1.Keys.length c11, .slice A13 p1.Aggs.length c14, .slice A16 p1.Desc.length c17, .int .i64 p1.Width]⟩)] := Env.start ⟨[.slice A1 p0.length c2, .agg ⟨[.int .i64 p1.Kind, .int .i64 p1.N, .slice A4 p1.Kids.length c5, .slice A7 p1.E.length c8, .slice A10 p1.Keys.length c11, .slice A13 p1.Aggs.length c14, .slice A16 p1.Desc.length c17, .int .i64 p1.Width]⟩]⟩ 163
  refine c_seq ?_; refine c_reg ?_; refine s_box hI hE rfl rfl rfl rfl fun a w b21 hE hI => ?_; refine s_alloc hI hE rfl z_57 rfl rfl fun a w b22 hE hI => ?_; refine c_end ?_; refine xT ?_; refine c_seq ?_; refine c_reg ?_
  refine s_rt hI hE rfl (f_build tt_ok rfl z_57 rfl rfl) rfl fun a hE => ?_; refine s_alloc hI hE rfl z_57 rfl rfl fun a w b23 hE hI => ?_
  refine s_storeB tt_ok 0 hI hE rfl rfl rfl rfl rfl rfl rfl rfl rfl rfl fun a w hE hI => ?_; refine c_end ?_; refine xT ?_; refine c_seq ?_; refine c_seq ?_; refine c_draw mixed (by kernel_rfl) hI ?_; clear hI
  refine runq tt_ok 1 hE rfl fun a hE => ?_; refine q_rt hE rfl (f_loadB tt_ok 2 rfl rfl rfl rfl) rfl fun a hE => ?_; refine runq tt_ok 2 hE rfl fun a hE => ?_
  refine q_rt hE rfl (f_loadB tt_ok 2 rfl rfl rfl rfl) rfl fun a hE => ?_; obtain ⟨y30, hy31, hF⟩ := bd hF
  refine q_call cl_63 hE rfl rfl (fun w hI => (ref21_arity.ok k) _ _ hy31 _ _  hI.pass0 ) (fun _ _ _ h => h.2) rfl fun a hE => ?_; refine runq tt_ok 1 hE rfl fun a hE => ?_; refine q_end ?_; intro w hI; refine xT ?_
  refine c_if (b := !decide ((p1.Kids.length : Int) = y30)) hE rfl (fun hb559 => ?_) (fun hb559 => ?_)
  · replace hF := ct hb559 hF; refine c_seq ?_; refine c_reg ?_; refine s_rt hI hE rfl (f_loadB tt_ok 0 rfl rfl rfl rfl) rfl fun a hE => ?_
    refine s_storeB tt_ok 1 hI hE rfl rfl rfl rfl rfl rfl rfl rfl rfl rfl fun a w hE hI => ?_; refine c_end ?_; refine xT ?_; refine c_ret ?_; refine xTr ?_; cases hF
    refine r_retC tt_ok hE hI (.cell 1 rfl rfl rfl rfl .nil) rfl ⟨_, _, _, rfl, hI.nil, rfl, _, rfl, (Tref04_Cost.inv.2 rfl)⟩
  replace hF := cf hb559 hF; refine c_skip ?_; refine xT ?_; refine c_seq ?_; refine c_seq ?_; refine c_reg ?_; refine run tt_ok 1 hE rfl fun a hE => ?_
  refine s_rt hI hE rfl (f_loadB tt_ok 2 rfl rfl rfl rfl) rfl fun a hE => ?_; refine run tt_ok 1 hE rfl fun a hE => ?_; refine c_end ?_; refine xT ?_
  refine c_if (b := decide (p1.Kind = (1 : Int))) hE rfl (fun hb558 => ?_) (fun hb558 => ?_)
  · replace hF := ct hb558 hF; refine c_seq ?_; refine c_reg ?_; refine s_rt hI hE rfl (f_build tt_ok rfl z_57 rfl rfl) rfl fun a hE => ?_
    refine s_storeB tt_ok 1 hI hE rfl rfl rfl rfl rfl rfl rfl rfl rfl rfl fun a w hE hI => ?_; refine c_end ?_; refine xT ?_; refine c_ret ?_; refine xTr ?_; cases hF
    refine r_retC tt_ok hE hI (.cell 1 rfl rfl rfl rfl .nil) rfl ⟨_, _, _, rfl, hI.nil, rfl, _, rfl, (Tref04_Cost.inv.2 rfl)⟩
  replace hF := cf hb558 hF; refine c_skip ?_; refine xT ?_; refine c_seq ?_; refine c_seq ?_; refine c_reg ?_; refine run tt_ok 1 hE rfl fun a hE => ?_
  refine s_rt hI hE rfl (f_loadB tt_ok 2 rfl rfl rfl rfl) rfl fun a hE => ?_; refine run tt_ok 1 hE rfl fun a hE => ?_; refine c_end ?_; refine xT ?_
  refine c_if (b := decide (p1.Kind ≤ (3 : Int))) hE rfl (fun hb557 => ?_) (fun hb557 => ?_)
  · replace hF := ct hb557 hF; refine c_seq ?_; refine c_reg ?_; refine run tt_ok 1 hE rfl fun a hE => ?_; refine c_end ?_; refine xT ?_; refine c_seq ?_; refine c_seq ?_; obtain ⟨m40, hF, hR42⟩ := bd hF
    refine c_cut (fun a' w' => ∃ (G38 : GH), G0.le G38 ∧ Env a' 165 [(0, .slice A1 p0.length c2), (3, .pointer (some ⟨b21, 0, none⟩)), (4, .pointer (some ⟨b22, 0, none⟩)), (6, .int .i64 (0 : Int)), (39, .bool m40)] ∧ Inv w0 G0 [] G38 [.blk b22 [.int .i64 (0 : Int), .int .i64 (0 : Int), .bool false] 57, .blk b21 [.int .i64 p1.Kind, .int .i64 p1.N, .slice A4 p1.Kids.length c5, .slice A7 p1.E.length c8, .slice A10 p1.Keys.length c11, .slice A13 p1.Aggs.length c14, .slice A16 p1.Desc.length c17, .int .i64 p1.Width] 51] w') ?_ ?_
    · refine c_reg ?_; refine run tt_ok 1 hE rfl fun a hE => ?_; refine s_rt hI hE rfl (f_loadB tt_ok 2 rfl rfl rfl rfl) rfl fun a hE => ?_; refine run tt_ok 2 hE rfl fun a hE => ?_
      rcases bool_or (decide ((0 : Int) ≤ p1.N)) with hb82 | hb82; rotate_left
      · replace hF := cf hb82 hF; have hE := hE.tr (t := 33) rfl hb82; clear hb82; refine run tt_ok 6 hE rfl fun a hE => ?_; refine c_end ?_; refine xT ?_; cases hF
        exact ⟨G0, (GH.le.refl _), hE.keep ⟨rfl, rfl, rfl, rfl, rfl, trivial⟩, (hI.dropN 1 rfl)⟩
      replace hF := ct hb82 hF; have hE := hE.tr (t := 33) rfl hb82; clear hb82; refine run tt_ok 1 hE rfl fun a hE => ?_; refine s_rt hI hE rfl (f_loadB tt_ok 2 rfl rfl rfl rfl) rfl fun a hE => ?_
      refine run tt_ok 4 hE rfl fun a hE => ?_; refine c_end ?_; refine xT ?_; cases hF; exact ⟨G0, (GH.le.refl _), hE.keep ⟨rfl, rfl, rfl, rfl, rfl, trivial⟩, (hI.dropN 1 rfl)⟩
    clear hE hI; rintro a w ⟨G38, hg41, hE, hI⟩; clear hF; have hF := hR42; clear hR42; refine xT ?_; obtain ⟨m55, hF, hR57⟩ := bd hF
    refine c_cut (fun a' w' => ∃ (G53 : GH), G38.le G53 ∧ Env a' 165 [(4, .pointer (some ⟨b22, 0, none⟩)), (6, .int .i64 m55)] ∧ Inv w0 G0 [] G53 [.blk b22 [.int .i64 (0 : Int), .int .i64 (0 : Int), .bool false] 57] w') ?_ ?_
    · refine c_if (b := m40) hE rfl (fun hb81 => ?_) (fun hb81 => ?_); rotate_left
      · replace hF := cf hb81 hF; refine c_skip ?_; refine xT ?_; cases hF; exact ⟨G38, (GH.le.refl _), hE.keep ⟨rfl, rfl, trivial⟩, (hI.pick [0] (by decide) rfl)⟩
      replace hF := ct hb81 hF; refine c_reg ?_; refine run tt_ok 2 hE rfl fun a hE => ?_; refine s_rt hI hE rfl (f_loadB tt_ok 1 rfl rfl rfl rfl) rfl fun a hE => ?_; obtain ⟨y78, hy79, hF⟩ := bd hF
      obtain ⟨b74, o75, cs, hb80, hR77, hA76⟩ := sl_at (h3.mono hg41) (getO_some hy79).1 (getO_some hy79).2; obtain rfl := rep_int.1 hR77; refine s_rt hI hE rfl (f_idx tt_ok hb80 rfl rfl rfl) rfl fun a hE => ?_
      refine s_rt hI hE rfl (f_loadG tt_ok hA76 0 rfl rfl rfl rfl) rfl fun a hE => ?_; refine run tt_ok 1 hE rfl fun a hE => ?_; refine c_end ?_; refine xT ?_; cases hF
      exact ⟨G38, (GH.le.refl _), hE.keep ⟨rfl, rfl, trivial⟩, (hI.pick [0] (by decide) rfl)⟩
    clear hE hI; rintro a w ⟨G53, hg56, hE, hI⟩; clear hF; have hF := hR57; clear hR57; refine xT ?_; refine c_seq ?_; refine c_seq ?_; refine c_reg ?_; refine run tt_ok 2 hE rfl fun a hE => ?_; refine c_end ?_; refine xT ?_
    obtain ⟨m61, hF, hR63⟩ := bd hF
    refine c_cut (fun a' w' => ∃ (G59 : GH), G53.le G59 ∧ Env a' 165 [(4, .pointer (some ⟨b22, 0, none⟩)), (6, .int .i64 m61)] ∧ Inv w0 G0 [] G59 [.blk b22 [.int .i64 (0 : Int), .int .i64 (0 : Int), .bool false] 57] w') ?_ ?_
    · refine c_if (b := decide (m55 < (0 : Int))) hE rfl (fun hb71 => ?_) (fun hb71 => ?_); rotate_left
      · replace hF := cf hb71 hF; refine c_skip ?_; refine xT ?_; cases hF; exact ⟨G53, (GH.le.refl _), hE.keep ⟨rfl, rfl, trivial⟩, hI⟩
      replace hF := ct hb71 hF; refine c_reg ?_; refine run tt_ok 1 hE rfl fun a hE => ?_; refine c_end ?_; refine xT ?_; cases hF; exact ⟨G53, (GH.le.refl _), hE.keep ⟨rfl, rfl, trivial⟩, hI⟩
    clear hE hI; rintro a w ⟨G59, hg62, hE, hI⟩; clear hF; have hF := hR63; clear hR63; refine xT ?_; refine c_seq ?_; refine c_seq ?_; refine c_reg ?_; refine run tt_ok 2 hE rfl fun a hE => ?_; refine c_end ?_; refine xT ?_
    obtain ⟨m67, hF, hR69⟩ := bd hF
    refine c_cut (fun a' w' => ∃ (G65 : GH), G59.le G65 ∧ Env a' 165 [(4, .pointer (some ⟨b22, 0, none⟩)), (6, .int .i64 m67)] ∧ Inv w0 G0 [] G65 [.blk b22 [.int .i64 (0 : Int), .int .i64 (0 : Int), .bool false] 57] w') ?_ ?_
    · refine c_if (b := decide ((100 : Int) < m61)) hE rfl (fun hb70 => ?_) (fun hb70 => ?_); rotate_left
      · replace hF := cf hb70 hF; refine c_skip ?_; refine xT ?_; cases hF; exact ⟨G59, (GH.le.refl _), hE.keep ⟨rfl, rfl, trivial⟩, hI⟩
      replace hF := ct hb70 hF; refine c_reg ?_; refine run tt_ok 1 hE rfl fun a hE => ?_; refine c_end ?_; refine xT ?_; cases hF; exact ⟨G59, (GH.le.refl _), hE.keep ⟨rfl, rfl, trivial⟩, hI⟩
    clear hE hI; rintro a w ⟨G65, hg68, hE, hI⟩; clear hF; have hF := hR69; clear hR69; refine xT ?_; refine c_seq ?_; refine c_reg ?_; refine run tt_ok 2 hE rfl fun a hE => ?_
    refine s_rt hI hE rfl (f_build tt_ok rfl z_57 rfl rfl) rfl fun a hE => ?_; refine s_storeB tt_ok 0 hI hE rfl rfl rfl rfl rfl rfl rfl rfl rfl rfl fun a w hE hI => ?_; refine c_end ?_; refine xT ?_; refine c_ret ?_
    refine xTr ?_; cases hF; refine r_retC tt_ok hE hI (.cell 0 rfl rfl rfl rfl .nil) rfl ⟨_, _, _, rfl, hI.nil, rfl, _, rfl, (Tref04_Cost.inv.2 rfl)⟩
  replace hF := cf hb557 hF; refine c_skip ?_; refine xT ?_; refine c_seq ?_; refine c_reg ?_; refine run tt_ok 2 hE rfl fun a hE => ?_; refine s_rt hI hE rfl (f_loadB tt_ok 2 rfl rfl rfl rfl) rfl fun a hE => ?_
  obtain ⟨y108, hy109, hF⟩ := bd hF; obtain ⟨b104, o105, cs, hb125, hR107, hA106⟩ := sl_at h6 (getO_some hy109).1 (getO_some hy109).2
  obtain ⟨A110, c111, A113, c114, A116, c117, A119, c120, A122, c123, rfl, h112, h115, h118, h121, h124⟩ := TPlan.inv.1 hR107; refine s_rt hI hE rfl (f_idx tt_ok hb125 rfl rfl rfl) rfl fun a hE => ?_
  refine s_rt hI hE rfl (f_loadG tt_ok hA106 0 rfl rfl rfl rfl) rfl fun a hE => ?_; obtain ⟨y126, hy127, hF⟩ := bd hF
  refine s_call0 cl_29 hI hE rfl rfl (hs_ref21_Plan _ _ _ hy127 _ _ _ _ _ hI.pass0 h3 (TPlan.inv.2 ⟨A110, c111, A113, c114, A116, c117, A119, c120, A122, c123, rfl, h112, h115, h118, h121, h124⟩)) rfl ?_; clear hE hI
  rintro a w _ G129 _ ⟨rfl, cshR130, rfl, hR130⟩ hg128 hI hE; obtain rfl := Tref04_Cost.inv.1 hR130; refine s_alloc hI hE rfl z_57 rfl rfl fun a w b131 hE hI => ?_
  refine s_storeB tt_ok 0 hI hE rfl rfl rfl rfl rfl rfl rfl rfl rfl rfl fun a w hE hI => ?_; refine c_end ?_; refine xT ?_; refine c_seq ?_; refine c_reg ?_; refine run tt_ok 1 hE rfl fun a hE => ?_
  refine s_rt hI hE rfl (f_loadB tt_ok 0 rfl rfl rfl rfl) rfl fun a hE => ?_; refine run tt_ok 1 hE rfl fun a hE => ?_; refine c_end ?_; refine xT ?_; refine c_seq ?_; refine c_draw mixed (by kernel_rfl) hI ?_; clear hI
  refine runq tt_ok 1 hE rfl fun a hE => ?_; refine q_rt hE rfl (f_loadB tt_ok 0 rfl rfl rfl rfl) rfl fun a hE => ?_; refine runq tt_ok 1 hE rfl fun a hE => ?_
  refine q_rt hE rfl (f_loadB tt_ok 0 rfl rfl rfl rfl) rfl fun a hE => ?_; refine runq tt_ok 2 hE rfl fun a hE => ?_; refine q_end ?_; intro w hI; refine xT ?_; refine c_seq ?_; refine c_seq ?_; refine c_reg ?_
  refine run tt_ok 1 hE rfl fun a hE => ?_; refine s_rt hI hE rfl (f_loadB tt_ok 3 rfl rfl rfl rfl) rfl fun a hE => ?_; obtain ⟨y137, hy138, hF⟩ := bd hF
  refine s_call0 cl_63 hI hE rfl rfl ((ref21_arity.ok k) _ _ hy138 _ _  hI.pass0 ) rfl ?_; clear hE hI; rintro a w _ G140 _ ⟨rfl, rfl⟩ hg139 hI hE; refine run tt_ok 1 hE rfl fun a hE => ?_; refine c_end ?_; refine xT ?_
  obtain ⟨m258, hF, hR260⟩ := bd hF
  refine c_cut (fun a' w' => ∃ (G254 : GH), G140.le G254 ∧ Env a' 165 [(0, .slice A1 p0.length c2), (3, .pointer (some ⟨b21, 0, none⟩)), (4, .pointer (some ⟨b22, 0, none⟩)), (8, .int .i64 m258.1), (9, .int .i64 m258.2.1), (10, .int .i64 m258.2.2)] ∧ Inv w0 G0 [] G254 [.blk b22 [.int .i64 (0 : Int), .int .i64 (0 : Int), .bool false] 57, .blk b21 [.int .i64 p1.Kind, .int .i64 p1.N, .slice A4 p1.Kids.length c5, .slice A7 p1.E.length c8, .slice A10 p1.Keys.length c11, .slice A13 p1.Aggs.length c14, .slice A16 p1.Desc.length c17, .int .i64 p1.Width] 51] w') ?_ ?_
  · refine c_if (b := decide (y137 = (2 : Int))) hE rfl (fun hb556 => ?_) (fun hb556 => ?_); rotate_left
    · replace hF := cf hb556 hF; refine c_skip ?_; refine xT ?_; cases hF; exact ⟨G140, (GH.le.refl _), hE.keep ⟨rfl, rfl, rfl, rfl, rfl, rfl, trivial⟩, (hI.dropN 2 rfl)⟩
    replace hF := ct hb556 hF; refine c_seq ?_; refine c_reg ?_; refine run tt_ok 2 hE rfl fun a hE => ?_; refine s_rt hI hE rfl (f_loadB tt_ok 3 rfl rfl rfl rfl) rfl fun a hE => ?_; obtain ⟨y469, hy470, hF⟩ := bd hF
    obtain ⟨b465, o466, cs, hb486, hR468, hA467⟩ := sl_at (h6.mono (hg128.trans hg139)) (getO_some hy470).1 (getO_some hy470).2
    obtain ⟨A471, c472, A474, c475, A477, c478, A480, c481, A483, c484, rfl, h473, h476, h479, h482, h485⟩ := TPlan.inv.1 hR468; refine s_rt hI hE rfl (f_idx tt_ok hb486 rfl rfl rfl) rfl fun a hE => ?_
    refine s_rt hI hE rfl (f_loadG tt_ok hA467 0 rfl rfl rfl rfl) rfl fun a hE => ?_; obtain ⟨y487, hy488, hF⟩ := bd hF
    refine s_call0 cl_29 hI hE rfl rfl (hs_ref21_Plan _ _ _ hy488 _ _ _ _ _ hI.pass0 (h3.mono (hg128.trans hg139)) (TPlan.inv.2 ⟨A471, c472, A474, c475, A477, c478, A480, c481, A483, c484, rfl, h473, h476, h479, h482, h485⟩)) rfl ?_; clear hE hI
    rintro a w _ G490 _ ⟨rfl, cshR491, rfl, hR491⟩ hg489 hI hE; obtain rfl := Tref04_Cost.inv.1 hR491; refine s_alloc hI hE rfl z_57 rfl rfl fun a w b492 hE hI => ?_
    refine s_storeB tt_ok 0 hI hE rfl rfl rfl rfl rfl rfl rfl rfl rfl rfl fun a w hE hI => ?_; refine c_end ?_; refine xT ?_; refine c_seq ?_; refine c_reg ?_; refine run tt_ok 2 hE rfl fun a hE => ?_
    refine s_rt hI hE rfl (f_loadB tt_ok 0 rfl rfl rfl rfl) rfl fun a hE => ?_; obtain ⟨y495, hy496, hF⟩ := bd hF; refine s_call0 cl_64 hI hE rfl rfl ((ref21_add.ok k) _ _ _ hy496 _ _  hI.pass0 ) rfl ?_; clear hE hI
    rintro a w _ G498 _ ⟨rfl, rfl⟩ hg497 hI hE; refine run tt_ok 1 hE rfl fun a hE => ?_; refine c_end ?_; refine xT ?_; refine c_seq ?_; refine c_reg ?_; refine run tt_ok 1 hE rfl fun a hE => ?_
    refine s_rt hI hE rfl (f_loadB tt_ok 1 rfl rfl rfl rfl) rfl fun a hE => ?_; refine run tt_ok 1 hE rfl fun a hE => ?_; refine s_rt hI hE rfl (f_loadB tt_ok 0 rfl rfl rfl rfl) rfl fun a hE => ?_
    obtain ⟨y502, hy503, hF⟩ := bd hF; refine s_call0 cl_64 hI hE rfl rfl ((ref21_add.ok k) _ _ _ hy503 _ _  hI.pass0 ) rfl ?_; clear hE hI; rintro a w _ G505 _ ⟨rfl, rfl⟩ hg504 hI hE; refine run tt_ok 1 hE rfl fun a hE => ?_
    refine c_end ?_; refine xT ?_; refine c_seq ?_; refine c_reg ?_; refine run tt_ok 2 hE rfl fun a hE => ?_; refine c_end ?_; refine xT ?_; refine c_seq ?_; refine c_seq ?_; obtain ⟨m510, hF, hR512⟩ := bd hF
    refine c_cut (fun a' w' => ∃ (G508 : GH), G505.le G508 ∧ Env a' 165 [(0, .slice A1 p0.length c2), (3, .pointer (some ⟨b21, 0, none⟩)), (4, .pointer (some ⟨b22, 0, none⟩)), (7, .pointer (some ⟨b131, 0, none⟩)), (8, .int .i64 y495), (9, .int .i64 y502), (10, .int .i64 y502), (11, .pointer (some ⟨b492, 0, none⟩)), (91, .bool m510)] ∧ Inv w0 G0 [] G508 [.blk b492 [.int .i64 y487.S, .int .i64 y487.R, .bool y487.Bad] 57, .blk b131 [.int .i64 y126.S, .int .i64 y126.R, .bool y126.Bad] 57, .blk b22 [.int .i64 (0 : Int), .int .i64 (0 : Int), .bool false] 57, .blk b21 [.int .i64 p1.Kind, .int .i64 p1.N, .slice A4 p1.Kids.length c5, .slice A7 p1.E.length c8, .slice A10 p1.Keys.length c11, .slice A13 p1.Aggs.length c14, .slice A16 p1.Desc.length c17, .int .i64 p1.Width] 51] w') ?_ ?_
    · refine c_reg ?_; refine run tt_ok 1 hE rfl fun a hE => ?_; refine s_rt hI hE rfl (f_loadB tt_ok 4 rfl rfl rfl rfl) rfl fun a hE => ?_; refine run tt_ok 2 hE rfl fun a hE => ?_
      rcases bool_or (decide (p1.Kind = (6 : Int))) with hb555 | hb555
      · replace hF := ct hb555 hF; have hE := hE.tr (t := 87) rfl hb555; clear hb555; refine run tt_ok 4 hE rfl fun a hE => ?_; refine c_end ?_; refine xT ?_; cases hF
        exact ⟨G505, (GH.le.refl _), hE.keep ⟨rfl, rfl, rfl, rfl, rfl, rfl, rfl, rfl, rfl, trivial⟩, (hI.pick [0, 1, 3, 4] (by decide) rfl)⟩
      replace hF := cf hb555 hF; have hE := hE.tr (t := 87) rfl hb555; clear hb555; refine run tt_ok 1 hE rfl fun a hE => ?_; refine s_rt hI hE rfl (f_loadB tt_ok 4 rfl rfl rfl rfl) rfl fun a hE => ?_
      refine run tt_ok 2 hE rfl fun a hE => ?_; refine c_end ?_; refine xT ?_; cases hF; exact ⟨G505, (GH.le.refl _), hE.keep ⟨rfl, rfl, rfl, rfl, rfl, rfl, rfl, rfl, rfl, trivial⟩, (hI.pick [0, 1, 3, 4] (by decide) rfl)⟩
    clear hE hI; rintro a w ⟨G508, hg511, hE, hI⟩; clear hF; have hF := hR512; clear hR512; refine xT ?_; obtain ⟨m524, hF, hR526⟩ := bd hF
    refine c_cut (fun a' w' => ∃ (G521 : GH), G508.le G521 ∧ Env a' 165 [(0, .slice A1 p0.length c2), (3, .pointer (some ⟨b21, 0, none⟩)), (4, .pointer (some ⟨b22, 0, none⟩)), (7, .pointer (some ⟨b131, 0, none⟩)), (8, .int .i64 y495), (9, .int .i64 m524.1), (10, .int .i64 m524.2), (11, .pointer (some ⟨b492, 0, none⟩))] ∧ Inv w0 G0 [] G521 [.blk b492 [.int .i64 y487.S, .int .i64 y487.R, .bool y487.Bad] 57, .blk b131 [.int .i64 y126.S, .int .i64 y126.R, .bool y126.Bad] 57, .blk b22 [.int .i64 (0 : Int), .int .i64 (0 : Int), .bool false] 57, .blk b21 [.int .i64 p1.Kind, .int .i64 p1.N, .slice A4 p1.Kids.length c5, .slice A7 p1.E.length c8, .slice A10 p1.Keys.length c11, .slice A13 p1.Aggs.length c14, .slice A16 p1.Desc.length c17, .int .i64 p1.Width] 51] w') ?_ ?_
    · refine c_if (b := m510) hE rfl (fun hb554 => ?_) (fun hb554 => ?_); rotate_left
      · replace hF := cf hb554 hF; refine c_skip ?_; refine xT ?_; cases hF; exact ⟨G508, (GH.le.refl _), hE.keep ⟨rfl, rfl, rfl, rfl, rfl, rfl, rfl, rfl, trivial⟩, hI⟩
      replace hF := ct hb554 hF; refine c_seq ?_; refine c_reg ?_; refine run tt_ok 1 hE rfl fun a hE => ?_; refine s_rt hI hE rfl (f_loadB tt_ok 1 rfl rfl rfl rfl) rfl fun a hE => ?_; refine run tt_ok 1 hE rfl fun a hE => ?_
      refine s_rt hI hE rfl (f_loadB tt_ok 0 rfl rfl rfl rfl) rfl fun a hE => ?_; obtain ⟨y550, hy551, hF⟩ := bd hF; refine s_call0 cl_65 hI hE rfl rfl ((ref21_times.ok k) _ _ _ hy551 _ _  hI.pass0 ) rfl ?_; clear hE hI
      rintro a w _ G553 _ ⟨rfl, rfl⟩ hg552 hI hE; refine run tt_ok 1 hE rfl fun a hE => ?_; refine c_end ?_; refine xT ?_; refine c_reg ?_; refine run tt_ok 2 hE rfl fun a hE => ?_; refine c_end ?_; refine xT ?_; cases hF
      exact ⟨G553, hg552, hE.keep ⟨rfl, rfl, rfl, rfl, rfl, rfl, rfl, rfl, trivial⟩, hI⟩
    clear hE hI; rintro a w ⟨G521, hg525, hE, hI⟩; clear hF; have hF := hR526; clear hR526; refine xT ?_; refine c_seq ?_; refine c_seq ?_; obtain ⟨m531, hF, hR533⟩ := bd hF
    refine c_cut (fun a' w' => ∃ (G529 : GH), G521.le G529 ∧ Env a' 165 [(0, .slice A1 p0.length c2), (3, .pointer (some ⟨b21, 0, none⟩)), (4, .pointer (some ⟨b22, 0, none⟩)), (7, .pointer (some ⟨b131, 0, none⟩)), (8, .int .i64 y495), (9, .int .i64 m524.1), (10, .int .i64 m524.2), (105, .bool m531)] ∧ Inv w0 G0 [] G529 [.blk b131 [.int .i64 y126.S, .int .i64 y126.R, .bool y126.Bad] 57, .blk b22 [.int .i64 (0 : Int), .int .i64 (0 : Int), .bool false] 57, .blk b21 [.int .i64 p1.Kind, .int .i64 p1.N, .slice A4 p1.Kids.length c5, .slice A7 p1.E.length c8, .slice A10 p1.Keys.length c11, .slice A13 p1.Aggs.length c14, .slice A16 p1.Desc.length c17, .int .i64 p1.Width] 51] w') ?_ ?_
    · refine c_reg ?_; refine run tt_ok 1 hE rfl fun a hE => ?_; refine s_rt hI hE rfl (f_loadB tt_ok 3 rfl rfl rfl rfl) rfl fun a hE => ?_; refine run tt_ok 2 hE rfl fun a hE => ?_
      rcases bool_or (decide (p1.Kind = (7 : Int))) with hb546 | hb546; rotate_left
      · replace hF := cf hb546 hF; have hE := hE.tr (t := 101) rfl hb546; clear hb546; refine run tt_ok 4 hE rfl fun a hE => ?_; refine c_end ?_; refine xT ?_; cases hF
        exact ⟨G521, (GH.le.refl _), hE.keep ⟨rfl, rfl, rfl, rfl, rfl, rfl, rfl, rfl, trivial⟩, (hI.dropN 1 rfl)⟩
      replace hF := ct hb546 hF; have hE := hE.tr (t := 101) rfl hb546; clear hb546; refine run tt_ok 1 hE rfl fun a hE => ?_; refine s_rt hI hE rfl (f_loadB tt_ok 0 rfl rfl rfl rfl) rfl fun a hE => ?_
      refine run tt_ok 2 hE rfl fun a hE => ?_; refine c_end ?_; refine xT ?_; cases hF; exact ⟨G521, (GH.le.refl _), hE.keep ⟨rfl, rfl, rfl, rfl, rfl, rfl, rfl, rfl, trivial⟩, (hI.dropN 1 rfl)⟩
    clear hE hI; rintro a w ⟨G529, hg532, hE, hI⟩; clear hF; have hF := hR533; clear hR533; refine xT ?_; obtain ⟨m538, hF, hR540⟩ := bd hF
    refine c_cut (fun a' w' => ∃ (G536 : GH), G529.le G536 ∧ Env a' 165 [(0, .slice A1 p0.length c2), (3, .pointer (some ⟨b21, 0, none⟩)), (4, .pointer (some ⟨b22, 0, none⟩)), (7, .pointer (some ⟨b131, 0, none⟩)), (8, .int .i64 y495), (9, .int .i64 m524.1), (10, .int .i64 m538)] ∧ Inv w0 G0 [] G536 [.blk b131 [.int .i64 y126.S, .int .i64 y126.R, .bool y126.Bad] 57, .blk b22 [.int .i64 (0 : Int), .int .i64 (0 : Int), .bool false] 57, .blk b21 [.int .i64 p1.Kind, .int .i64 p1.N, .slice A4 p1.Kids.length c5, .slice A7 p1.E.length c8, .slice A10 p1.Keys.length c11, .slice A13 p1.Aggs.length c14, .slice A16 p1.Desc.length c17, .int .i64 p1.Width] 51] w') ?_ ?_
    · refine c_if (b := m531) hE rfl (fun hb545 => ?_) (fun hb545 => ?_); rotate_left
      · replace hF := cf hb545 hF; refine c_skip ?_; refine xT ?_; cases hF; exact ⟨G529, (GH.le.refl _), hE.keep ⟨rfl, rfl, rfl, rfl, rfl, rfl, rfl, trivial⟩, hI⟩
      replace hF := ct hb545 hF; refine c_reg ?_; refine run tt_ok 1 hE rfl fun a hE => ?_; refine s_rt hI hE rfl (f_loadB tt_ok 0 rfl rfl rfl rfl) rfl fun a hE => ?_; refine run tt_ok 1 hE rfl fun a hE => ?_; refine c_end ?_
      refine xT ?_; cases hF; exact ⟨G529, (GH.le.refl _), hE.keep ⟨rfl, rfl, rfl, rfl, rfl, rfl, rfl, trivial⟩, hI⟩
    clear hE hI; rintro a w ⟨G536, hg539, hE, hI⟩; clear hF; have hF := hR540; clear hR540; refine xT ?_; refine c_seq ?_; refine c_reg ?_; refine run tt_ok 1 hE rfl fun a hE => ?_
    refine s_rt hI hE rfl (f_loadB tt_ok 2 rfl rfl rfl rfl) rfl fun a hE => ?_; refine run tt_ok 1 hE rfl fun a hE => ?_; refine c_end ?_; refine xT ?_
    refine c_if (b := decide ((14 : Int) ≤ p1.Kind)) hE rfl (fun hb543 => ?_) (fun hb543 => ?_); rotate_left
    · replace hF := cf hb543 hF; refine c_skip ?_; refine xT ?_; cases hF
      exact ⟨G536, ((((((hg489.trans hg497).trans hg504).trans hg511).trans hg525).trans hg532).trans hg539), hE.keep ⟨rfl, rfl, rfl, rfl, rfl, rfl, trivial⟩, (hI.dropN 1 rfl)⟩
    replace hF := ct hb543 hF; refine c_reg ?_; refine run tt_ok 1 hE rfl fun a hE => ?_; refine s_rt hI hE rfl (f_loadB tt_ok 0 rfl rfl rfl rfl) rfl fun a hE => ?_; refine run tt_ok 1 hE rfl fun a hE => ?_; refine c_end ?_
    refine xT ?_; cases hF; exact ⟨G536, ((((((hg489.trans hg497).trans hg504).trans hg511).trans hg525).trans hg532).trans hg539), hE.keep ⟨rfl, rfl, rfl, rfl, rfl, rfl, trivial⟩, (hI.dropN 1 rfl)⟩
  clear hE hI; rintro a w ⟨G254, hg259, hE, hI⟩; clear hF; have hF := hR260; clear hR260; refine xT ?_; refine c_seq ?_; refine c_seq ?_; obtain ⟨m265, hF, hR267⟩ := bd hF
  refine c_cut (fun a' w' => ∃ (G263 : GH), G254.le G263 ∧ Env a' 165 [(0, .slice A1 p0.length c2), (3, .pointer (some ⟨b21, 0, none⟩)), (4, .pointer (some ⟨b22, 0, none⟩)), (8, .int .i64 m258.1), (9, .int .i64 m258.2.1), (10, .int .i64 m258.2.2), (121, .bool m265)] ∧ Inv w0 G0 [] G263 [.blk b22 [.int .i64 (0 : Int), .int .i64 (0 : Int), .bool false] 57, .blk b21 [.int .i64 p1.Kind, .int .i64 p1.N, .slice A4 p1.Kids.length c5, .slice A7 p1.E.length c8, .slice A10 p1.Keys.length c11, .slice A13 p1.Aggs.length c14, .slice A16 p1.Desc.length c17, .int .i64 p1.Width] 51] w') ?_ ?_
  · refine c_reg ?_; refine run tt_ok 1 hE rfl fun a hE => ?_; refine s_rt hI hE rfl (f_loadB tt_ok 1 rfl rfl rfl rfl) rfl fun a hE => ?_; refine run tt_ok 2 hE rfl fun a hE => ?_
    rcases bool_or (decide (p1.Kind = (11 : Int))) with hb443 | hb443; rotate_left
    · replace hF := cf hb443 hF; have hE := hE.tr (t := 116) rfl hb443; clear hb443; refine run tt_ok 5 hE rfl fun a hE => ?_; refine c_end ?_; refine xT ?_; cases hF
      exact ⟨G254, (GH.le.refl _), hE.keep ⟨rfl, rfl, rfl, rfl, rfl, rfl, rfl, trivial⟩, hI⟩
    replace hF := ct hb443 hF; have hE := hE.tr (t := 116) rfl hb443; clear hb443; refine run tt_ok 1 hE rfl fun a hE => ?_; refine s_rt hI hE rfl (f_loadB tt_ok 1 rfl rfl rfl rfl) rfl fun a hE => ?_
    refine run tt_ok 3 hE rfl fun a hE => ?_; refine c_end ?_; refine xT ?_; cases hF; exact ⟨G254, (GH.le.refl _), hE.keep ⟨rfl, rfl, rfl, rfl, rfl, rfl, rfl, trivial⟩, hI⟩
  clear hE hI; rintro a w ⟨G263, hg266, hE, hI⟩; clear hF; have hF := hR267; clear hR267; refine xT ?_; obtain ⟨m273, hF, hR275⟩ := bd hF
  refine c_cut (fun a' w' => ∃ (G271 : GH), G263.le G271 ∧ Env a' 165 [(0, .slice A1 p0.length c2), (3, .pointer (some ⟨b21, 0, none⟩)), (4, .pointer (some ⟨b22, 0, none⟩)), (8, .int .i64 m258.1), (9, .int .i64 m258.2.1), (10, .int .i64 m273)] ∧ Inv w0 G0 [] G271 [.blk b22 [.int .i64 (0 : Int), .int .i64 (0 : Int), .bool false] 57, .blk b21 [.int .i64 p1.Kind, .int .i64 p1.N, .slice A4 p1.Kids.length c5, .slice A7 p1.E.length c8, .slice A10 p1.Keys.length c11, .slice A13 p1.Aggs.length c14, .slice A16 p1.Desc.length c17, .int .i64 p1.Width] 51] w') ?_ ?_
  · refine c_if (b := m265) hE rfl (fun hb442 => ?_) (fun hb442 => ?_); rotate_left
    · replace hF := cf hb442 hF; refine c_skip ?_; refine xT ?_; cases hF; exact ⟨G263, (GH.le.refl _), hE.keep ⟨rfl, rfl, rfl, rfl, rfl, rfl, trivial⟩, hI⟩
    replace hF := ct hb442 hF; refine c_seq ?_; refine c_reg ?_; refine run tt_ok 1 hE rfl fun a hE => ?_; refine s_rt hI hE rfl (f_loadB tt_ok 1 rfl rfl rfl rfl) rfl fun a hE => ?_; refine run tt_ok 1 hE rfl fun a hE => ?_
    refine c_end ?_; refine xT ?_; refine c_seq ?_; refine c_reg ?_; refine run tt_ok 2 hE rfl fun a hE => ?_; refine c_end ?_; refine xT ?_
    refine c_if (b := decide (p1.N < (0 : Int))) hE rfl (fun hb441 => ?_) (fun hb441 => ?_); rotate_left
    · replace hF := cf hb441 hF; refine c_skip ?_; refine xT ?_; cases hF; exact ⟨G263, (GH.le.refl _), hE.keep ⟨rfl, rfl, rfl, rfl, rfl, rfl, trivial⟩, hI⟩
    replace hF := ct hb441 hF; refine c_reg ?_; refine run tt_ok 1 hE rfl fun a hE => ?_; refine c_end ?_; refine xT ?_; cases hF; exact ⟨G263, (GH.le.refl _), hE.keep ⟨rfl, rfl, rfl, rfl, rfl, rfl, trivial⟩, hI⟩
  clear hE hI; rintro a w ⟨G271, hg274, hE, hI⟩; clear hF; have hF := hR275; clear hR275; refine xT ?_; refine c_seq ?_; refine c_seq ?_; obtain ⟨m280, hF, hR282⟩ := bd hF
  refine c_cut (fun a' w' => ∃ (G278 : GH), G271.le G278 ∧ Env a' 165 [(0, .slice A1 p0.length c2), (3, .pointer (some ⟨b21, 0, none⟩)), (4, .pointer (some ⟨b22, 0, none⟩)), (8, .int .i64 m258.1), (9, .int .i64 m258.2.1), (10, .int .i64 m273), (134, .bool m280)] ∧ Inv w0 G0 [] G278 [.blk b22 [.int .i64 (0 : Int), .int .i64 (0 : Int), .bool false] 57, .blk b21 [.int .i64 p1.Kind, .int .i64 p1.N, .slice A4 p1.Kids.length c5, .slice A7 p1.E.length c8, .slice A10 p1.Keys.length c11, .slice A13 p1.Aggs.length c14, .slice A16 p1.Desc.length c17, .int .i64 p1.Width] 51] w') ?_ ?_
  · refine c_reg ?_; refine run tt_ok 1 hE rfl fun a hE => ?_; refine s_rt hI hE rfl (f_loadB tt_ok 1 rfl rfl rfl rfl) rfl fun a hE => ?_; refine run tt_ok 2 hE rfl fun a hE => ?_
    rcases bool_or (decide (p1.Kind = (8 : Int))) with hb439 | hb439; rotate_left
    · replace hF := cf hb439 hF; have hE := hE.tr (t := 129) rfl hb439; clear hb439; refine run tt_ok 5 hE rfl fun a hE => ?_; refine c_end ?_; refine xT ?_; cases hF
      exact ⟨G271, (GH.le.refl _), hE.keep ⟨rfl, rfl, rfl, rfl, rfl, rfl, rfl, trivial⟩, hI⟩
    replace hF := ct hb439 hF; have hE := hE.tr (t := 129) rfl hb439; clear hb439; refine run tt_ok 1 hE rfl fun a hE => ?_; refine s_rt hI hE rfl (f_loadB tt_ok 1 rfl rfl rfl rfl) rfl fun a hE => ?_
    refine run tt_ok 3 hE rfl fun a hE => ?_; refine c_end ?_; refine xT ?_; cases hF; exact ⟨G271, (GH.le.refl _), hE.keep ⟨rfl, rfl, rfl, rfl, rfl, rfl, rfl, trivial⟩, hI⟩
  clear hE hI; rintro a w ⟨G278, hg281, hE, hI⟩; clear hF; have hF := hR282; clear hR282; refine xT ?_; obtain ⟨m286, hF, hR288⟩ := bd hF
  refine c_cut (fun a' w' => ∃ (G284 : GH), G278.le G284 ∧ Env a' 165 [(0, .slice A1 p0.length c2), (3, .pointer (some ⟨b21, 0, none⟩)), (4, .pointer (some ⟨b22, 0, none⟩)), (8, .int .i64 m258.1), (9, .int .i64 m258.2.1), (10, .int .i64 m286)] ∧ Inv w0 G0 [] G284 [.blk b22 [.int .i64 (0 : Int), .int .i64 (0 : Int), .bool false] 57, .blk b21 [.int .i64 p1.Kind, .int .i64 p1.N, .slice A4 p1.Kids.length c5, .slice A7 p1.E.length c8, .slice A10 p1.Keys.length c11, .slice A13 p1.Aggs.length c14, .slice A16 p1.Desc.length c17, .int .i64 p1.Width] 51] w') ?_ ?_
  · refine c_if (b := m280) hE rfl (fun hb438 => ?_) (fun hb438 => ?_); rotate_left
    · replace hF := cf hb438 hF; refine c_skip ?_; refine xT ?_; cases hF; exact ⟨G278, (GH.le.refl _), hE.keep ⟨rfl, rfl, rfl, rfl, rfl, rfl, trivial⟩, hI⟩
    replace hF := ct hb438 hF; refine c_reg ?_; refine run tt_ok 1 hE rfl fun a hE => ?_; refine c_end ?_; refine xT ?_; cases hF; exact ⟨G278, (GH.le.refl _), hE.keep ⟨rfl, rfl, rfl, rfl, rfl, rfl, trivial⟩, hI⟩
  clear hE hI; rintro a w ⟨G284, hg287, hE, hI⟩; clear hF; have hF := hR288; clear hR288; refine xT ?_; refine c_seq ?_; refine c_reg ?_; refine run tt_ok 2 hE rfl fun a hE => ?_
  refine s_rt hI hE rfl (f_loadB tt_ok 1 rfl rfl rfl rfl) rfl fun a hE => ?_; obtain ⟨y294, hy295, hF⟩ := bd hF
  refine s_call0 cl_66 hI hE rfl rfl (hs_ref21_inside _ _ _ hy295 _ _ _ _ _ _ hI.pass0 (h3.mono ((((((hg128.trans hg139).trans hg259).trans hg266).trans hg274).trans hg281).trans hg287)) (h9.mono ((((((hg128.trans hg139).trans hg259).trans hg266).trans hg274).trans hg281).trans hg287))) rfl ?_; clear hE hI
  rintro a w _ G297 _ ⟨rfl, rfl⟩ hg296 hI hE; refine run tt_ok 1 hE rfl fun a hE => ?_; refine c_end ?_; refine xT ?_; refine c_seq ?_; refine c_seq ?_; refine c_reg ?_; refine run tt_ok 1 hE rfl fun a hE => ?_
  refine c_end ?_; refine xT ?_; obtain ⟨o372, hO373, hK374⟩ := bd hF; clear hF
  refine c_cut (fun a' w' => ∃ (s376 : Int) (G377 : GH), o372 = .go s376 ∧ G297.le G377 ∧ Env a' 165 [(4, .pointer (some ⟨b22, 0, none⟩)), (8, .int .i64 m258.1), (9, .int .i64 m258.2.1), (10, .int .i64 m286), (12, .int .i64 s376)] ∧ Inv w0 G0 [] G377 [.blk b22 [.int .i64 (0 : Int), .int .i64 (0 : Int), .bool false] 57, .blk b21 [.int .i64 p1.Kind, .int .i64 p1.N, .slice A4 p1.Kids.length c5, .slice A7 p1.E.length c8, .slice A10 p1.Keys.length c11, .slice A13 p1.Aggs.length c14, .slice A16 p1.Desc.length c17, .int .i64 p1.Width] 51] w') ?_ ?_
  rotate_left
  · clear hE hI hO373; rintro a w ⟨s376, G377, rfl, hg379, hE, hI⟩; have hF := lrk_go hK374; clear hK374; refine xT ?_; refine c_seq ?_; refine c_reg ?_; refine run tt_ok 3 hE rfl fun a hE => ?_
    obtain ⟨y383, hy384, hF⟩ := bd hF; refine s_call0 cl_65 hI hE rfl rfl ((ref21_times.ok k) _ _ _ hy384 _ _  hI.pass0 ) rfl ?_; clear hE hI; rintro a w _ G386 _ ⟨rfl, rfl⟩ hg385 hI hE; obtain ⟨y387, hy388, hF⟩ := bd hF
    refine s_call0 cl_64 hI hE rfl rfl ((ref21_add.ok k) _ _ _ hy388 _ _  hI.pass0 ) rfl ?_; clear hE hI; rintro a w _ G390 _ ⟨rfl, rfl⟩ hg389 hI hE; refine run tt_ok 1 hE rfl fun a hE => ?_; obtain ⟨y391, hy392, hF⟩ := bd hF
    refine s_call0 cl_64 hI hE rfl rfl ((ref21_add.ok k) _ _ _ hy392 _ _  hI.pass0 ) rfl ?_; clear hE hI; rintro a w _ G394 _ ⟨rfl, rfl⟩ hg393 hI hE; refine run tt_ok 1 hE rfl fun a hE => ?_
    refine s_rt hI hE rfl (f_build tt_ok rfl z_57 rfl rfl) rfl fun a hE => ?_; refine s_storeB tt_ok 0 hI hE rfl rfl rfl rfl rfl rfl rfl rfl rfl rfl fun a w hE hI => ?_; refine c_end ?_; refine xT ?_; refine c_ret ?_
    cases hF; refine r_retC tt_ok hE hI (.cell 0 rfl rfl rfl rfl .nil) rfl ⟨_, _, _, rfl, hI.nil, rfl, _, rfl, (Tref04_Cost.inv.2 rfl)⟩
  refine c_block ?_
  refine wp_loop_ghost (fun n' a' w' => ∃ (i397 : Nat) (rest399 : List TGather) (s371 : Int) (G369 : GH), n' = rest399.length ∧ i397 ≤ p1.Aggs.length ∧ p1.Aggs.drop i397 = rest399 ∧ forL (ref21_Plan.b0 k s_ref21_Plan s_ref21_inside p0) i397 rest399 s371 = some o372 ∧ G297.le G369 ∧ Env a' 165 [(13, .int .i64 (i397 : Int)), (0, .slice A1 p0.length c2), (3, .pointer (some ⟨b21, 0, none⟩)), (4, .pointer (some ⟨b22, 0, none⟩)), (8, .int .i64 m258.1), (9, .int .i64 m258.2.1), (10, .int .i64 m286), (12, .int .i64 s371)] ∧ Inv w0 G0 [] G369 [.blk b22 [.int .i64 (0 : Int), .int .i64 (0 : Int), .bool false] 57, .blk b21 [.int .i64 p1.Kind, .int .i64 p1.N, .slice A4 p1.Kids.length c5, .slice A7 p1.E.length c8, .slice A10 p1.Keys.length c11, .slice A13 p1.Aggs.length c14, .slice A16 p1.Desc.length c17, .int .i64 p1.Width] 51] w') _ ⟨0, _, _, G297, rfl, Nat.zero_le _, rfl, hO373, (GH.le.refl _), hE.keep ⟨rfl, rfl, rfl, rfl, rfl, rfl, rfl, rfl, trivial⟩, hI⟩ ?_
  clear hE hI hO373; rintro m396 a w ⟨i397, rest399, s371, G369, rfl, hi403, hd400, hO373, hg375, hE, hI⟩; rcases rest399 with _ | ⟨x398, rest399⟩
  · obtain rfl := forL_nil hO373; have hlt402 := drop_nil hd400 hi403; clear hd400; refine c_seq ?_; refine c_seq ?_; refine c_reg ?_; refine run tt_ok 2 hE rfl fun a hE => ?_
    refine s_rt hI hE rfl (f_loadB tt_ok 1 rfl rfl rfl rfl) rfl fun a hE => ?_; refine run tt_ok 2 hE rfl fun a hE => ?_; refine c_end ?_; refine xT ?_; have hE := hE.tr (t := 143) rfl (decide_eq_false (by omega))
    refine c_false hE rfl ?_; refine c_exit ?_; refine xTe ?_; refine xTe ?_; refine xBh ?_; refine xT ?_; exact ⟨_, G369, rfl, hg375, hE.keep ⟨rfl, rfl, rfl, rfl, rfl, trivial⟩, hI⟩
  obtain ⟨stp395, hF, hO373⟩ := forL_step hO373; obtain ⟨hx401, hd400, hlt402⟩ := drop_cons hd400; unfold ref21_Plan.b0 at hF; refine c_seq ?_; refine c_seq ?_; refine c_reg ?_; refine run tt_ok 2 hE rfl fun a hE => ?_
  refine s_rt hI hE rfl (f_loadB tt_ok 1 rfl rfl rfl rfl) rfl fun a hE => ?_; refine run tt_ok 2 hE rfl fun a hE => ?_; refine c_end ?_; refine xT ?_; have hE := hE.tr (t := 143) rfl (decide_eq_true (by omega))
  refine c_true hE rfl ?_; refine c_skip ?_; refine xT ?_; refine c_seq ?_; refine c_block ?_; refine c_reg ?_; refine run tt_ok 3 hE rfl fun a hE => ?_
  refine s_rt hI hE rfl (f_loadB tt_ok 1 rfl rfl rfl rfl) rfl fun a hE => ?_; refine run tt_ok 1 hE rfl fun a hE => ?_
  obtain ⟨b418, o419, cs, hb425, hR421, hA420⟩ := sl_at (h15.mono ((((((((hg128.trans hg139).trans hg259).trans hg266).trans hg274).trans hg281).trans hg287).trans hg296).trans hg375)) (Int.natCast_nonneg _) (natIdx hx401)
  obtain ⟨A422, c423, rfl, h424⟩ := TGather.inv.1 hR421; refine s_rt hI hE rfl (f_idx tt_ok hb425 rfl rfl rfl) rfl fun a hE => ?_; refine run tt_ok 1 hE rfl fun a hE => ?_
  refine s_rt hI hE rfl (f_loadG tt_ok hA420 1 rfl rfl rfl rfl) rfl fun a hE => ?_; obtain ⟨y426, hy427, hF⟩ := bd hF
  refine s_call0 cl_66 hI hE rfl rfl (hs_ref21_inside _ _ _ hy427 _ _ _ _ _ _ hI.pass0 (h3.mono ((((((((hg128.trans hg139).trans hg259).trans hg266).trans hg274).trans hg281).trans hg287).trans hg296).trans hg375)) h424) rfl ?_; clear hE hI
  rintro a w _ G429 _ ⟨rfl, rfl⟩ hg428 hI hE; obtain ⟨y430, hy431, hF⟩ := bd hF; refine s_call0 cl_64 hI hE rfl rfl ((ref21_add.ok k) _ _ _ hy431 _ _  hI.pass0 ) rfl ?_; clear hE hI
  rintro a w _ G433 _ ⟨rfl, rfl⟩ hg432 hI hE; refine run tt_ok 1 hE rfl fun a hE => ?_; refine c_end ?_; refine xB ?_; refine xT ?_; refine c_reg ?_; refine run tt_ok 3 hE rfl fun a hE => ?_; refine c_end ?_; refine xT ?_
  cases hF; have hE := hE.setI (t := 13) rfl (w64_succ hlt402 (len_le h15))
  exact ⟨rest399.length, Nat.lt_succ_self _, i397 + 1, rest399, _, G433, rfl, hlt402, hd400, hO373, ((hg375.trans hg428).trans hg432), hE.keep ⟨rfl, rfl, rfl, rfl, rfl, rfl, rfl, rfl, trivial⟩, hI⟩

theorem ref21_inside.F_ok (k : Nat) (s_ref21_Plan : (List Int) → TPlan → Option Tref04_Cost) (s_ref21_inside : (List Int) → (List TNode) → Option Int) (hs_ref21_Plan : ref21_Plan.C s_ref21_Plan) (hs_ref21_inside : ref21_inside.C s_ref21_inside) : ref21_inside.C (ref21_inside.F k s_ref21_Plan s_ref21_inside) := by
  intro p0 p1 r hF w0 G0 A1 c2 A4 c5 hI h3 h6
  unfold ref21_inside.F at hF
  refine calls_of_wp Try.func66 rfl ?_
  have hE : Env _ 47 [(0, .slice A1 p0.length c2), (1, .slice A4 p1.length c5)] := Env.start ⟨[.slice A1 p0.length c2, .slice A4 p1.length c5]⟩ 45
  refine c_seq ?_; refine c_reg ?_; refine run tt_ok 1 hE rfl fun a hE => ?_; refine c_end ?_; refine xT ?_; refine c_seq ?_; refine c_reg ?_; refine run tt_ok 1 hE rfl fun a hE => ?_; refine c_end ?_; refine xT ?_
  refine c_seq ?_; refine c_seq ?_; refine c_reg ?_; refine run tt_ok 1 hE rfl fun a hE => ?_; refine c_end ?_; refine xT ?_; obtain ⟨o619, hO620, hK621⟩ := bd hF; clear hF
  refine c_cut (fun a' w' => ∃ (s623 : Int) (G624 : GH), o619 = .go s623 ∧ G0.le G624 ∧ Env a' 47 [(5, .int .i64 s623)] ∧ Inv w0 G0 [] G624 [] w') ?_ ?_; rotate_left
  · clear hE hI hO620; rintro a w ⟨s623, G624, rfl, hg626, hE, hI⟩; have hF := lrk_go hK621; clear hK621; refine xT ?_; refine c_seq ?_; refine c_reg ?_; refine run tt_ok 2 hE rfl fun a hE => ?_; refine c_end ?_; refine xT ?_
    refine c_ret ?_; cases hF; refine r_ret (v := _) hE rfl ⟨_, _, _, rfl, hI.nil, rfl, rfl⟩
  refine c_block ?_
  refine wp_loop_ghost (fun n' a' w' => ∃ (i629 : Nat) (rest631 : List TNode) (s618 : Int) (G616 : GH), n' = rest631.length ∧ i629 ≤ p1.length ∧ p1.drop i629 = rest631 ∧ forL (ref21_inside.b0 k s_ref21_Plan s_ref21_inside p0) i629 rest631 s618 = some o619 ∧ G0.le G616 ∧ Env a' 47 [(6, .int .i64 (i629 : Int)), (0, .slice A1 p0.length c2), (1, .slice A4 p1.length c5), (5, .int .i64 s618)] ∧ Inv w0 G0 [] G616 [] w') _ ⟨0, _, _, G0, rfl, Nat.zero_le _, rfl, hO620, (GH.le.refl _), hE.keep ⟨rfl, rfl, rfl, rfl, trivial⟩, hI⟩ ?_
  clear hE hI hO620; rintro m628 a w ⟨i629, rest631, s618, G616, rfl, hi635, hd632, hO620, hg622, hE, hI⟩; rcases rest631 with _ | ⟨x630, rest631⟩
  · obtain rfl := forL_nil hO620; have hlt634 := drop_nil hd632 hi635; clear hd632; refine c_seq ?_; refine c_seq ?_; refine c_reg ?_; refine run tt_ok 4 hE rfl fun a hE => ?_; refine c_end ?_; refine xT ?_
    have hE := hE.tr (t := 11) rfl (decide_eq_false (by omega)); refine c_false hE rfl ?_; refine c_exit ?_; refine xTe ?_; refine xTe ?_; refine xBh ?_; refine xT ?_; exact ⟨_, G616, rfl, hg622, hE.keep ⟨rfl, trivial⟩, hI⟩
  obtain ⟨stp627, hF, hO620⟩ := forL_step hO620; obtain ⟨hx633, hd632, hlt634⟩ := drop_cons hd632; unfold ref21_inside.b0 at hF; refine c_seq ?_; refine c_seq ?_; refine c_reg ?_; refine run tt_ok 4 hE rfl fun a hE => ?_
  refine c_end ?_; refine xT ?_; have hE := hE.tr (t := 11) rfl (decide_eq_true (by omega)); refine c_true hE rfl ?_; refine c_skip ?_; refine xT ?_; refine c_seq ?_; refine c_block ?_; refine c_seq ?_; refine c_seq ?_
  refine c_reg ?_; refine run tt_ok 1 hE rfl fun a hE => ?_; refine c_end ?_; refine xT ?_; obtain ⟨o812, hO813, hK814⟩ := bd hF; clear hF
  refine c_cut (fun a' w' => ∃ (s816 : Int × Int) (G817 : GH), o812 = .go s816 ∧ G616.le G817 ∧ Env a' 47 [(0, .slice A1 p0.length c2), (1, .slice A4 p1.length c5), (5, .int .i64 s816.1), (6, .int .i64 (i629 : Int))] ∧ Inv w0 G0 [] G817 [] w') ?_ ?_
  rotate_left
  · clear hE hI hO813; rintro a w ⟨s816, G817, rfl, hg820, hE, hI⟩; have hF := lrk_go hK814; clear hK814; refine xT ?_; refine c_reg ?_; refine run tt_ok 4 hE rfl fun a hE => ?_
    obtain ⟨b827, o828, cs, hb837, hR830, hA829⟩ := sl_at (h6.mono (hg622.trans hg820)) (Int.natCast_nonneg _) (natIdx hx633); obtain ⟨A831, c832, A834, c835, rfl, h833, h836⟩ := TNode.inv.1 hR830
    refine s_rt hI hE rfl (f_idx tt_ok hb837 rfl rfl rfl) rfl fun a hE => ?_; refine run tt_ok 1 hE rfl fun a hE => ?_; refine s_rt hI hE rfl (f_loadG tt_ok hA829 3 rfl rfl rfl rfl) rfl fun a hE => ?_
    obtain ⟨y838, hy839, hF⟩ := bd hF; refine s_call0 cl_66 hI hE rfl rfl (hs_ref21_inside _ _ _ hy839 _ _ _ _ _ _ hI.pass0 (h3.mono (hg622.trans hg820)) h833) rfl ?_; clear hE hI; rintro a w _ G841 _ ⟨rfl, rfl⟩ hg840 hI hE
    obtain ⟨y842, hy843, hF⟩ := bd hF; refine s_call0 cl_64 hI hE rfl rfl ((ref21_add.ok k) _ _ _ hy843 _ _  hI.pass0 ) rfl ?_; clear hE hI; rintro a w _ G845 _ ⟨rfl, rfl⟩ hg844 hI hE; refine run tt_ok 1 hE rfl fun a hE => ?_
    refine c_end ?_; refine xB ?_; refine xT ?_; refine c_reg ?_; refine run tt_ok 3 hE rfl fun a hE => ?_; refine c_end ?_; refine xT ?_; cases hF; have hE := hE.setI (t := 6) rfl (w64_succ hlt634 (len_le h6))
    exact ⟨rest631.length, Nat.lt_succ_self _, i629 + 1, rest631, _, G845, rfl, hlt634, hd632, hO620, (((hg622.trans hg820).trans hg840).trans hg844), hE.keep ⟨rfl, rfl, rfl, rfl, trivial⟩, hI⟩
  refine c_block ?_
  refine wp_loop_ghost (fun n' a' w' => ∃ (s811 : Int × Int) (G808 : GH), whileL (ref21_inside.b1 k s_ref21_Plan s_ref21_inside x630 p0) n' s811 = some o812 ∧ G616.le G808 ∧ Env a' 47 [(0, .slice A1 p0.length c2), (1, .slice A4 p1.length c5), (5, .int .i64 s811.1), (6, .int .i64 (i629 : Int)), (7, .int .i64 s811.2)] ∧ Inv w0 G0 [] G808 [] w') _ ⟨_, G616, hO813, (GH.le.refl _), hE.keep ⟨rfl, rfl, rfl, rfl, rfl, trivial⟩, hI⟩ ?_
  clear hE hI hO813; rintro m847 a w ⟨s811, G808, hO813, hg815, hE, hI⟩; rcases m847 with _ | m847
  · cases hO813
  obtain ⟨stp846, hF, hO813⟩ := while_step hO813; unfold ref21_inside.b1 at hF; refine c_seq ?_; refine c_seq ?_; refine c_reg ?_; refine run tt_ok 3 hE rfl fun a hE => ?_
  obtain ⟨b859, o860, cs, hb869, hR862, hA861⟩ := sl_at (h6.mono (hg622.trans hg815)) (Int.natCast_nonneg _) (natIdx hx633); obtain ⟨A863, c864, A866, c867, rfl, h865, h868⟩ := TNode.inv.1 hR862
  refine s_rt hI hE rfl (f_idx tt_ok hb869 rfl rfl rfl) rfl fun a hE => ?_; refine run tt_ok 1 hE rfl fun a hE => ?_; refine s_rt hI hE rfl (f_loadG tt_ok hA861 4 rfl rfl rfl rfl) rfl fun a hE => ?_
  refine run tt_ok 2 hE rfl fun a hE => ?_; refine c_end ?_; refine xT ?_; refine c_if (b := decide (s811.2 < (x630.Plans.length : Int))) hE rfl (fun hb934 => ?_) (fun hb934 => ?_); rotate_left
  · replace hF := cf hb934 hF; refine c_exit ?_; refine xTe ?_; refine xTe ?_; refine xBh ?_; refine xT ?_; cases hF; obtain rfl := wnxt_brk hO813; exact ⟨_, G808, rfl, hg815, hE.keep ⟨rfl, rfl, rfl, rfl, trivial⟩, hI⟩
  replace hF := ct hb934 hF; refine c_skip ?_; refine xT ?_; refine c_seq ?_; refine c_block ?_; refine c_reg ?_; refine run tt_ok 4 hE rfl fun a hE => ?_
  obtain ⟨b892, o893, cs, hb902, hR895, hA894⟩ := sl_at (h6.mono (hg622.trans hg815)) (Int.natCast_nonneg _) (natIdx hx633); obtain ⟨A896, c897, A899, c900, rfl, h898, h901⟩ := TNode.inv.1 hR895
  refine s_rt hI hE rfl (f_idx tt_ok hb902 rfl rfl rfl) rfl fun a hE => ?_; refine run tt_ok 1 hE rfl fun a hE => ?_; refine s_rt hI hE rfl (f_loadG tt_ok hA894 4 rfl rfl rfl rfl) rfl fun a hE => ?_
  refine run tt_ok 1 hE rfl fun a hE => ?_; obtain ⟨y907, hy908, hF⟩ := bd hF; obtain ⟨b903, o904, cs, hb924, hR906, hA905⟩ := sl_at h901 (getO_some hy908).1 (getO_some hy908).2
  obtain ⟨A909, c910, A912, c913, A915, c916, A918, c919, A921, c922, rfl, h911, h914, h917, h920, h923⟩ := TPlan.inv.1 hR906; refine s_rt hI hE rfl (f_idx tt_ok hb924 rfl rfl rfl) rfl fun a hE => ?_
  refine s_rt hI hE rfl (f_loadG tt_ok hA905 0 rfl rfl rfl rfl) rfl fun a hE => ?_; obtain ⟨y925, hy926, hF⟩ := bd hF
  refine s_call0 cl_29 hI hE rfl rfl (hs_ref21_Plan _ _ _ hy926 _ _ _ _ _ hI.pass0 (h3.mono (hg622.trans hg815)) (TPlan.inv.2 ⟨A909, c910, A912, c913, A915, c916, A918, c919, A921, c922, rfl, h911, h914, h917, h920, h923⟩)) rfl ?_; clear hE hI
  rintro a w _ G928 _ ⟨rfl, cshR929, rfl, hR929⟩ hg927 hI hE; obtain rfl := Tref04_Cost.inv.1 hR929; refine run tt_ok 1 hE rfl fun a hE => ?_; obtain ⟨y930, hy931, hF⟩ := bd hF
  refine s_call0 cl_64 hI hE rfl rfl ((ref21_add.ok k) _ _ _ hy931 _ _  hI.pass0 ) rfl ?_; clear hE hI; rintro a w _ G933 _ ⟨rfl, rfl⟩ hg932 hI hE; refine run tt_ok 1 hE rfl fun a hE => ?_; refine c_end ?_; refine xB ?_
  refine xT ?_; refine c_reg ?_; refine run tt_ok 3 hE rfl fun a hE => ?_; refine c_end ?_; refine xT ?_; cases hF
  exact ⟨m847, Nat.lt_succ_self _, _, G933, hO813, ((hg815.trans hg927).trans hg932), hE.keep ⟨rfl, rfl, rfl, rfl, rfl, trivial⟩, hI⟩

theorem ref21_Plan.ok_all : ∀ k, ref21_Plan.C (ref21_Plan k) ∧ ref21_inside.C (ref21_inside k)
  | 0 => ⟨(fun _ _ _ h => (by cases h)), (fun _ _ _ h => (by cases h))⟩
  | k + 1 => by
    have h := ref21_Plan.ok_all k
    exact ⟨ref21_Plan.F_ok k (ref21_Plan k) (ref21_inside k) h.1 h.2, ref21_inside.F_ok k (ref21_Plan k) (ref21_inside k) h.1 h.2⟩

theorem ref21_Plan.ok (k : Nat) : ref21_Plan.C (ref21_Plan k) := (ref21_Plan.ok_all k).1

theorem ref21_inside.ok (k : Nat) : ref21_inside.C (ref21_inside k) := (ref21_Plan.ok_all k).2
end Go.Proofs.Ytliaopbgkcdibaa
