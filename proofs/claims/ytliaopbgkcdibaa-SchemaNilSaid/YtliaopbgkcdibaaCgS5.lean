/- The contracts: what the machine does at a call is what the plain function says. Written by mk.py. -/
import Derived.Test.YtliaopbgkcdibaaCgS0
import Derived.Test.YtliaopbgkcdibaaCgS3
import Derived.Test.YtliaopbgkcdibaaCgS4
set_option linter.unusedVariables false
set_option linter.unusedSimpArgs false
set_option maxRecDepth 100000
namespace Go.Proofs.Ytliaopbgkcdibaa
open Go.RowKit
theorem schema_one.ok (k : Nat) : schema_one.C (schema_one k) := by
  intro p0 p1 r hF w0 G0  hI 
  unfold schema_one at hF
  refine calls_of_wp Try.func123 rfl ?_
  have hE : Env _ 25 [(0, .int .i64 p0), (1, .int .i64 p1)] := Env.start ⟨[.int .i64 p0, .int .i64 p1]⟩ 23
  refine c_seq ?_; refine c_reg ?_; refine run tt_ok 1 hE rfl fun a hE => ?_; refine c_end ?_; refine xT ?_; refine c_seq ?_; refine c_block ?_; refine c_seq ?_; obtain ⟨m4, hF, hR6⟩ := bd hF
  refine c_cut (fun a' w' => ∃ (G2 : GH), G0.le G2 ∧ Env a' 25 [(0, .int .i64 p0), (1, .int .i64 p1), (5, .bool m4)] ∧ Inv w0 G0 [] G2 [] w') ?_ ?_
  · refine c_reg ?_; refine run tt_ok 3 hE rfl fun a hE => ?_; rcases bool_or (decide (p0 = (-1 : Int))) with hb17 | hb17
    · replace hF := ct hb17 hF; have hE := hE.tr (t := 8) rfl hb17; clear hb17; refine run tt_ok 4 hE rfl fun a hE => ?_; refine c_end ?_; refine xT ?_; cases hF; exact ⟨G0, (GH.le.refl _), hE.keep ⟨rfl, rfl, rfl, trivial⟩, hI⟩
    replace hF := cf hb17 hF; have hE := hE.tr (t := 8) rfl hb17; clear hb17; refine run tt_ok 4 hE rfl fun a hE => ?_; refine c_end ?_; refine xT ?_; cases hF; exact ⟨G0, (GH.le.refl _), hE.keep ⟨rfl, rfl, rfl, trivial⟩, hI⟩
  clear hE hI; rintro a w ⟨G2, hg5, hE, hI⟩; clear hF; have hF := hR6; clear hR6; refine xT ?_; refine c_if (b := m4) hE rfl (fun hb16 => ?_) (fun hb16 => ?_)
  · replace hF := ct hb16 hF; refine c_seq ?_; refine c_reg ?_; refine run tt_ok 1 hE rfl fun a hE => ?_; refine c_end ?_; refine xT ?_; refine c_ret ?_; refine xBr ?_; refine xTr ?_; cases hF
    refine r_ret (v := _) hE rfl ⟨_, _, _, rfl, hI.nil, rfl, rfl⟩
  replace hF := cf hb16 hF; refine c_seq ?_; refine c_reg ?_; refine run tt_ok 3 hE rfl fun a hE => ?_; refine c_end ?_; refine xT ?_; refine c_if (b := decide (p0 = (0 : Int))) hE rfl (fun hb15 => ?_) (fun hb15 => ?_)
  · replace hF := ct hb15 hF; refine c_seq ?_; refine c_reg ?_; refine run tt_ok 2 hE rfl fun a hE => ?_; refine c_end ?_; refine xT ?_; refine c_ret ?_; refine xBr ?_; refine xTr ?_; cases hF
    refine r_ret (v := _) hE rfl ⟨_, _, _, rfl, hI.nil, rfl, rfl⟩
  replace hF := cf hb15 hF; refine c_seq ?_; obtain ⟨m10, hF, hR12⟩ := bd hF; refine c_cut (fun a' w' => ∃ (G8 : GH), G2.le G8 ∧ Env a' 25 [(0, .int .i64 p0), (16, .bool m10)] ∧ Inv w0 G0 [] G8 [] w') ?_ ?_
  · refine c_reg ?_; refine run tt_ok 3 hE rfl fun a hE => ?_; rcases bool_or (decide (p1 = (0 : Int))) with hb14 | hb14
    · replace hF := ct hb14 hF; have hE := hE.tr (t := 19) rfl hb14; clear hb14; refine run tt_ok 5 hE rfl fun a hE => ?_; refine c_end ?_; refine xT ?_; cases hF; exact ⟨G2, (GH.le.refl _), hE.keep ⟨rfl, rfl, trivial⟩, hI⟩
    replace hF := cf hb14 hF; have hE := hE.tr (t := 19) rfl hb14; clear hb14; refine run tt_ok 5 hE rfl fun a hE => ?_; refine c_end ?_; refine xT ?_; cases hF; exact ⟨G2, (GH.le.refl _), hE.keep ⟨rfl, rfl, trivial⟩, hI⟩
  clear hE hI; rintro a w ⟨G8, hg11, hE, hI⟩; clear hF; have hF := hR12; clear hR12; refine xT ?_; refine c_if (b := m10) hE rfl (fun hb13 => ?_) (fun hb13 => ?_)
  · replace hF := ct hb13 hF; refine c_seq ?_; refine c_reg ?_; refine run tt_ok 2 hE rfl fun a hE => ?_; refine c_end ?_; refine xT ?_; refine c_ret ?_; refine xBr ?_; refine xTr ?_; cases hF
    refine r_ret (v := _) hE rfl ⟨_, _, _, rfl, hI.nil, rfl, rfl⟩
  replace hF := cf hb13 hF; refine c_skip ?_; refine xB ?_; refine xT ?_; refine c_seq ?_; refine c_reg ?_; refine run tt_ok 1 hE rfl fun a hE => ?_; refine c_end ?_; refine xT ?_; refine c_ret ?_; cases hF
  refine r_ret (v := _) hE rfl ⟨_, _, _, rfl, hI.nil, rfl, rfl⟩

theorem cl_108 : Callable Try.prog 108 := ⟨_, Try.func108, by kernel_rfl, by kernel_rfl⟩

def schema_predicate_typeOf.C (s : (Option Tschema_predicate) → TExpr → Option Int) : Prop := ∀ (p0 : Option Tschema_predicate) (p1 : TExpr) (r : Int), s p0 p1 = some r → ∀ (w0 : World) (G0 : GH) (A1 : Option Addr) (cs9 : List Value), Inv w0 G0 [] G0 [] w0 → (Pt G0 A1 165 Tschema_predicate.d p0) → (Rep G0 p1.d cs9) → Calls Try.prog 108 #[.pointer A1, .agg ⟨cs9⟩] w0 (Ret w0 G0 [] fun G' L' v => L' = [] ∧ v = .int .i64 r)

theorem cl_121 : Callable Try.prog 121 := ⟨_, Try.func121, by kernel_rfl, by kernel_rfl⟩

def schema_predicate_typeOf_1.C (s : Int → (Option (Option Tschema_predicate)) → (Option TExpr) → Option Int) : Prop := ∀ (p0 : Int) (p1 : Option (Option Tschema_predicate)) (p2 : Option TExpr) (r : Int), s p0 p1 p2 = some r → ∀ (w0 : World) (G0 : GH) (A1 : Option Addr) (A3 : Option Addr), Inv w0 G0 [] G0 [] w0 → (Pt G0 A1 163 (D.op 165 Tschema_predicate.d) p1) → (Pt G0 A3 117 TExpr.d p2) → Calls Try.prog 121 #[.int .i64 p0, .pointer A1, .pointer A3] w0 (Ret w0 G0 [] fun G' L' v => L' = [] ∧ v = .int .i64 r)

theorem schema_predicate_typeOf.F_ok (k : Nat) (s_schema_predicate_typeOf : (Option Tschema_predicate) → TExpr → Option Int) (s_schema_predicate_typeOf_1 : Int → (Option (Option Tschema_predicate)) → (Option TExpr) → Option Int) (hs_schema_predicate_typeOf : schema_predicate_typeOf.C s_schema_predicate_typeOf) (hs_schema_predicate_typeOf_1 : schema_predicate_typeOf_1.C s_schema_predicate_typeOf_1) : schema_predicate_typeOf.C (schema_predicate_typeOf.F k s_schema_predicate_typeOf s_schema_predicate_typeOf_1) := by
  intro p0 p1 r hF w0 G0 A1 cs9 hI h2 hR10
  unfold schema_predicate_typeOf.F at hF
  obtain ⟨A3, c4, A6, c7, rfl, h5, h8⟩ := TExpr.inv.1 hR10
  refine calls_of_wp Try.func108 rfl ?_
  have hE : Env _ 84 [(0, .pointer A1), (1, .agg ⟨[.int .i64 p1.Kind, .int .i64 p1.N, .string p1.S, .string p1.T, .slice A3 p1.Kids.length c4, .slice A6 p1.Q.length c7]⟩)] := Env.start ⟨[.pointer A1, .agg ⟨[.int .i64 p1.Kind, .int .i64 p1.N, .string p1.S, .string p1.T, .slice A3 p1.Kids.length c4, .slice A6 p1.Q.length c7]⟩]⟩ 82
  refine c_seq ?_; refine c_reg ?_; refine s_box hI hE rfl rfl rfl rfl fun a w b11 hE hI => ?_; refine s_box hI hE rfl rfl rfl rfl fun a w b12 hE hI => ?_; refine run tt_ok 1 hE rfl fun a hE => ?_; refine c_end ?_
  refine xT ?_; refine c_seq ?_; refine c_reg ?_; refine s_rt hI hE rfl (f_mkfn rfl) rfl fun a hE => ?_; refine run tt_ok 1 hE rfl fun a hE => ?_; refine c_end ?_; refine xT ?_; refine c_seq ?_; refine c_seq ?_
  refine c_reg ?_; refine run tt_ok 1 hE rfl fun a hE => ?_; refine s_rt hI hE rfl (f_loadB tt_ok 0 rfl rfl rfl rfl) rfl fun a hE => ?_; refine c_end ?_; refine xT ?_; refine c_block ?_; refine c_seq ?_; refine c_reg ?_
  refine run tt_ok 2 hE rfl fun a hE => ?_; refine c_end ?_; refine xT ?_; refine c_if (b := decide (p1.Kind = (1 : Int))) hE rfl (fun hb208 => ?_) (fun hb208 => ?_)
  · replace hF := ct hb208 hF; refine c_seq ?_; refine c_reg ?_; refine run tt_ok 1 hE rfl fun a hE => ?_; refine c_end ?_; refine xT ?_; refine c_ret ?_; refine xBr ?_; refine xTr ?_; cases hF
    refine r_ret (v := _) hE rfl ⟨_, _, _, rfl, hI.nil, rfl, rfl⟩
  replace hF := cf hb208 hF; refine c_seq ?_; refine c_reg ?_; refine run tt_ok 2 hE rfl fun a hE => ?_; refine c_end ?_; refine xT ?_
  refine c_if (b := decide (p1.Kind = (2 : Int))) hE rfl (fun hb207 => ?_) (fun hb207 => ?_)
  · replace hF := ct hb207 hF; refine c_seq ?_; refine c_reg ?_; refine run tt_ok 1 hE rfl fun a hE => ?_; refine c_end ?_; refine xT ?_; refine c_ret ?_; refine xBr ?_; refine xTr ?_; cases hF
    refine r_ret (v := _) hE rfl ⟨_, _, _, rfl, hI.nil, rfl, rfl⟩
  replace hF := cf hb207 hF; refine c_seq ?_; refine c_reg ?_; refine run tt_ok 2 hE rfl fun a hE => ?_; refine c_end ?_; refine xT ?_
  refine c_if (b := decide (p1.Kind = (3 : Int))) hE rfl (fun hb206 => ?_) (fun hb206 => ?_)
  · replace hF := ct hb206 hF; refine c_seq ?_; refine c_reg ?_; refine run tt_ok 1 hE rfl fun a hE => ?_; refine c_end ?_; refine xT ?_; refine c_ret ?_; refine xBr ?_; refine xTr ?_; cases hF
    refine r_ret (v := _) hE rfl ⟨_, _, _, rfl, hI.nil, rfl, rfl⟩
  replace hF := cf hb206 hF; refine c_seq ?_; refine c_reg ?_; refine run tt_ok 2 hE rfl fun a hE => ?_; refine c_end ?_; refine xT ?_
  refine c_if (b := decide (p1.Kind = (4 : Int))) hE rfl (fun hb205 => ?_) (fun hb205 => ?_)
  · replace hF := ct hb205 hF; refine c_seq ?_; refine c_reg ?_; refine run tt_ok 1 hE rfl fun a hE => ?_; refine c_end ?_; refine xT ?_; refine c_ret ?_; refine xBr ?_; refine xTr ?_; cases hF
    refine r_ret (v := _) hE rfl ⟨_, _, _, rfl, hI.nil, rfl, rfl⟩
  replace hF := cf hb205 hF; refine c_seq ?_; refine c_reg ?_; refine run tt_ok 2 hE rfl fun a hE => ?_; refine c_end ?_; refine xT ?_
  refine c_if (b := decide (p1.Kind = (5 : Int))) hE rfl (fun hb204 => ?_) (fun hb204 => ?_)
  · replace hF := ct hb204 hF; refine c_seq ?_; refine c_draw mixed (by kernel_rfl) hI ?_; clear hI; refine q_rt hE rfl (f_loadB tt_ok 1 rfl rfl rfl rfl) rfl fun a hE => ?_
    rcases (h2).cases with ⟨hp23, rfl⟩ | ⟨y21, b22, cs, hp23, rfl, hR24, hA25⟩
    · cases op_n hp23 hF
    replace hF := op_s hp23 hF; obtain ⟨A26, A28, A30, c31, rfl, h27, h29, h32⟩ := Tschema_predicate.inv.1 hR24; refine runq tt_ok 2 hE rfl fun a hE => ?_
    refine q_rt hE rfl (f_loadG tt_ok hA25 2 rfl rfl rfl rfl) rfl fun a hE => ?_; rcases (h29).cases with ⟨hp35, rfl⟩ | ⟨y33, b34, cs, hp35, rfl, hR36, hA37⟩
    · cases op_n hp35 hF
    replace hF := op_s hp35 hF; obtain ⟨A38, c39, A41, c42, A44, c45, rfl, h40, h43, h46⟩ := TRelation.inv.1 hR36; refine runq tt_ok 2 hE rfl fun a hE => ?_
    refine q_rt hE rfl (f_loadG tt_ok hA37 2 rfl rfl rfl rfl) rfl fun a hE => ?_; refine q_rt hE rfl (f_loadB tt_ok 1 rfl rfl rfl rfl) rfl fun a hE => ?_; refine runq tt_ok 2 hE rfl fun a hE => ?_
    refine q_rt hE rfl (f_loadG tt_ok hA25 1 rfl rfl rfl rfl) rfl fun a hE => ?_; refine runq tt_ok 1 hE rfl fun a hE => ?_; refine q_rt hE rfl (f_loadB tt_ok 0 rfl rfl rfl rfl) rfl fun a hE => ?_
    obtain ⟨c47, u48, hr49, hu50, hrt51⟩ := f_lookG key_str h27 um_73 uk_9 false hE (L := [.blk b12 [.int .i64 p1.Kind, .int .i64 p1.N, .string p1.S, .string p1.T, .slice A3 p1.Kids.length c4, .slice A6 p1.Q.length c7] 117, .blk b11 [.pointer (some ⟨b22, 0, none⟩)] 163]) (x := .tmp 31) (y := .tmp 33) rfl rfl z_3 (rep_int.2 rfl) rfl
    obtain rfl : c47 = [u48] := hu50; obtain rfl := rep1_int.1 hr49; refine q_rt hE rfl (hrt51 _ _ _) rfl fun a hE => ?_; obtain ⟨y56, hy57, hF⟩ := bd hF
    obtain ⟨b52, o53, cs, hb58, hR55, hA54⟩ := sl_at h40 (getO_some hy57).1 (getO_some hy57).2; obtain rfl := TField.inv.1 hR55; refine q_rt hE rfl (f_idx tt_ok hb58 rfl rfl rfl) rfl fun a hE => ?_
    refine runq tt_ok 1 hE rfl fun a hE => ?_; refine q_rt hE rfl (f_loadG tt_ok hA54 1 rfl rfl rfl rfl) rfl fun a hE => ?_; refine runq tt_ok 1 hE rfl fun a hE => ?_; refine q_end ?_; intro w hI; refine xT ?_
    refine c_ret ?_; refine xBr ?_; refine xTr ?_; cases hF; refine r_ret (v := _) hE rfl ⟨_, _, _, rfl, hI.nil, rfl, rfl⟩
  replace hF := cf hb204 hF; refine c_seq ?_; refine c_reg ?_; refine run tt_ok 2 hE rfl fun a hE => ?_; refine c_end ?_; refine xT ?_
  refine c_if (b := decide (p1.Kind = (8 : Int))) hE rfl (fun hb203 => ?_) (fun hb203 => ?_)
  · replace hF := ct hb203 hF; refine c_seq ?_; refine c_seq ?_; refine c_reg ?_; refine run tt_ok 1 hE rfl fun a hE => ?_; obtain ⟨y61, hy62, hF⟩ := bd hF
    refine s_callV (S := fun _ L' u => L' = [] ∧ u = .int .i64 y61) hI hE rfl rfl rfl (by obtain ⟨G64, hg65, hI, hA66⟩ := (hI.front 1).giveB; have h67 : Pt G64 (some ⟨b11, 0, none⟩) 163 (D.op 165 Tschema_predicate.d) (some p0) := Pt.mk (rep_op.2 ⟨A1, rfl, (h2.mono hg65)⟩) hA66; obtain ⟨G68, hg69, hI, hA70⟩ := (hI.front 0).giveB; have h71 : Pt G68 (some ⟨b12, 0, none⟩) 117 TExpr.d (some p1) := Pt.mk (TExpr.inv.2 ⟨A3, c4, A6, c7, rfl, (h5.mono (hg65.trans hg69)), (h8.mono (hg65.trans hg69))⟩) hA70; exact ⟨_, 121, [.pointer (some ⟨b11, 0, none⟩), .pointer (some ⟨b12, 0, none⟩)], rfl, cl_121, hs_schema_predicate_typeOf_1 _ _ _ _ hy62 _ _ _ _ hI.pass0 (h67.mono hg69) h71⟩) (fun _ _ _ h => h.2) rfl ?_; clear hE hI; intro a w hI hE
    obtain ⟨y72, hy73, hF⟩ := bd hF; refine s_call0 cl_122 hI hE rfl rfl ((schema_logical.ok k) _ _ hy73 _ _  hI.pass0 ) rfl ?_; clear hE hI; rintro a w _ G75 _ ⟨rfl, rfl⟩ hg74 hI hE; refine run tt_ok 1 hE rfl fun a hE => ?_
    refine c_end ?_; refine xT ?_; refine c_if (b := !y72) hE rfl (fun hb76 => ?_) (fun hb76 => ?_)
    · replace hF := ct hb76 hF; refine c_seq ?_; refine c_reg ?_; refine run tt_ok 1 hE rfl fun a hE => ?_; refine c_end ?_; refine xT ?_; refine c_ret ?_; refine xTr ?_; refine xBr ?_; refine xTr ?_; cases hF
      refine r_ret (v := _) hE rfl ⟨_, _, _, rfl, hI.nil, rfl, rfl⟩
    replace hF := cf hb76 hF; refine c_skip ?_; refine xT ?_; refine c_seq ?_; refine c_reg ?_; refine run tt_ok 1 hE rfl fun a hE => ?_; refine c_end ?_; refine xT ?_; refine c_ret ?_; refine xBr ?_; refine xTr ?_; cases hF
    refine r_ret (v := _) hE rfl ⟨_, _, _, rfl, hI.nil, rfl, rfl⟩
  replace hF := cf hb203 hF; refine c_seq ?_; refine c_reg ?_; refine run tt_ok 2 hE rfl fun a hE => ?_; refine c_end ?_; refine xT ?_
  refine c_if (b := decide (p1.Kind = (9 : Int))) hE rfl (fun hb202 => ?_) (fun hb202 => ?_)
  · replace hF := ct hb202 hF; refine c_seq ?_; refine c_seq ?_; refine c_reg ?_; refine run tt_ok 1 hE rfl fun a hE => ?_; obtain ⟨y78, hy79, hF⟩ := bd hF
    refine s_callV (S := fun _ L' u => L' = [] ∧ u = .int .i64 y78) hI hE rfl rfl rfl (by obtain ⟨G81, hg82, hI, hA83⟩ := (hI.front 1).giveB; have h84 : Pt G81 (some ⟨b11, 0, none⟩) 163 (D.op 165 Tschema_predicate.d) (some p0) := Pt.mk (rep_op.2 ⟨A1, rfl, (h2.mono hg82)⟩) hA83; obtain ⟨G85, hg86, hI, hA87⟩ := (hI.front 0).giveB; have h88 : Pt G85 (some ⟨b12, 0, none⟩) 117 TExpr.d (some p1) := Pt.mk (TExpr.inv.2 ⟨A3, c4, A6, c7, rfl, (h5.mono (hg82.trans hg86)), (h8.mono (hg82.trans hg86))⟩) hA87; exact ⟨_, 121, [.pointer (some ⟨b11, 0, none⟩), .pointer (some ⟨b12, 0, none⟩)], rfl, cl_121, hs_schema_predicate_typeOf_1 _ _ _ _ hy79 _ _ _ _ hI.pass0 (h84.mono hg86) h88⟩) (fun _ _ _ h => h.2) rfl ?_; clear hE hI; intro a w hI hE
    refine run tt_ok 1 hE rfl fun a hE => ?_; refine c_end ?_; refine xT ?_; refine c_if (b := decide (y78 = (-1 : Int))) hE rfl (fun hb89 => ?_) (fun hb89 => ?_)
    · replace hF := ct hb89 hF; refine c_seq ?_; refine c_reg ?_; refine run tt_ok 1 hE rfl fun a hE => ?_; refine c_end ?_; refine xT ?_; refine c_ret ?_; refine xTr ?_; refine xBr ?_; refine xTr ?_; cases hF
      refine r_ret (v := _) hE rfl ⟨_, _, _, rfl, hI.nil, rfl, rfl⟩
    replace hF := cf hb89 hF; refine c_skip ?_; refine xT ?_; refine c_seq ?_; refine c_reg ?_; refine run tt_ok 1 hE rfl fun a hE => ?_; refine c_end ?_; refine xT ?_; refine c_ret ?_; refine xBr ?_; refine xTr ?_; cases hF
    refine r_ret (v := _) hE rfl ⟨_, _, _, rfl, hI.nil, rfl, rfl⟩
  replace hF := cf hb202 hF; refine c_seq ?_; refine c_reg ?_; refine run tt_ok 2 hE rfl fun a hE => ?_; refine c_end ?_; refine xT ?_
  refine c_if (b := decide (p1.Kind = (11 : Int))) hE rfl (fun hb201 => ?_) (fun hb201 => ?_)
  · replace hF := ct hb201 hF; refine c_seq ?_; refine c_seq ?_; refine c_reg ?_; refine run tt_ok 1 hE rfl fun a hE => ?_; obtain ⟨y92, hy93, hF⟩ := bd hF
    refine s_callV (S := fun _ L' u => L' = [] ∧ u = .int .i64 y92) hI hE rfl rfl rfl (by obtain ⟨G95, hg96, hI, hA97⟩ := (hI.front 1).giveB; have h98 : Pt G95 (some ⟨b11, 0, none⟩) 163 (D.op 165 Tschema_predicate.d) (some p0) := Pt.mk (rep_op.2 ⟨A1, rfl, (h2.mono hg96)⟩) hA97; obtain ⟨G99, hg100, hI, hA101⟩ := (hI.front 0).giveB; have h102 : Pt G99 (some ⟨b12, 0, none⟩) 117 TExpr.d (some p1) := Pt.mk (TExpr.inv.2 ⟨A3, c4, A6, c7, rfl, (h5.mono (hg96.trans hg100)), (h8.mono (hg96.trans hg100))⟩) hA101; exact ⟨_, 121, [.pointer (some ⟨b11, 0, none⟩), .pointer (some ⟨b12, 0, none⟩)], rfl, cl_121, hs_schema_predicate_typeOf_1 _ _ _ _ hy93 _ _ _ _ hI.pass0 (h98.mono hg100) h102⟩) (fun _ _ _ h => h.2) rfl ?_; clear hE hI; intro a w hI hE
    obtain ⟨y103, hy104, hF⟩ := bd hF; refine s_call0 cl_122 hI hE rfl rfl ((schema_logical.ok k) _ _ hy104 _ _  hI.pass0 ) rfl ?_; clear hE hI; rintro a w _ G106 _ ⟨rfl, rfl⟩ hg105 hI hE
    refine run tt_ok 1 hE rfl fun a hE => ?_; refine c_end ?_; refine xT ?_; refine c_if (b := !y103) hE rfl (fun hb136 => ?_) (fun hb136 => ?_)
    · replace hF := ct hb136 hF; refine c_seq ?_; refine c_reg ?_; refine run tt_ok 1 hE rfl fun a hE => ?_; refine c_end ?_; refine xT ?_; refine c_ret ?_; refine xTr ?_; refine xBr ?_; refine xTr ?_; cases hF
      refine r_ret (v := _) hE rfl ⟨_, _, _, rfl, hI.nil, rfl, rfl⟩
    replace hF := cf hb136 hF; refine c_skip ?_; refine xT ?_; refine c_seq ?_; refine c_reg ?_; refine run tt_ok 1 hE rfl fun a hE => ?_; obtain ⟨y110, hy111, hF⟩ := bd hF
    refine s_callV (S := fun _ L' u => L' = [] ∧ u = .int .i64 y110) hI hE rfl rfl rfl (by obtain ⟨G113, hg114, hI, hA115⟩ := (hI.front 1).giveB; have h116 : Pt G113 (some ⟨b11, 0, none⟩) 163 (D.op 165 Tschema_predicate.d) (some p0) := Pt.mk (rep_op.2 ⟨A1, rfl, (h2.mono (hg105.trans hg114))⟩) hA115; obtain ⟨G117, hg118, hI, hA119⟩ := (hI.front 0).giveB; have h120 : Pt G117 (some ⟨b12, 0, none⟩) 117 TExpr.d (some p1) := Pt.mk (TExpr.inv.2 ⟨A3, c4, A6, c7, rfl, (h5.mono ((hg105.trans hg114).trans hg118)), (h8.mono ((hg105.trans hg114).trans hg118))⟩) hA119; exact ⟨_, 121, [.pointer (some ⟨b11, 0, none⟩), .pointer (some ⟨b12, 0, none⟩)], rfl, cl_121, hs_schema_predicate_typeOf_1 _ _ _ _ hy111 _ _ _ _ hI.pass0 (h116.mono hg118) h120⟩) (fun _ _ _ h => h.2) rfl ?_; clear hE hI; intro a w hI hE
    refine run tt_ok 1 hE rfl fun a hE => ?_; obtain ⟨y121, hy122, hF⟩ := bd hF
    refine s_callV (S := fun _ L' u => L' = [] ∧ u = .int .i64 y121) hI hE rfl rfl rfl (by obtain ⟨G124, hg125, hI, hA126⟩ := (hI.front 1).giveB; have h127 : Pt G124 (some ⟨b11, 0, none⟩) 163 (D.op 165 Tschema_predicate.d) (some p0) := Pt.mk (rep_op.2 ⟨A1, rfl, (h2.mono (hg105.trans hg125))⟩) hA126; obtain ⟨G128, hg129, hI, hA130⟩ := (hI.front 0).giveB; have h131 : Pt G128 (some ⟨b12, 0, none⟩) 117 TExpr.d (some p1) := Pt.mk (TExpr.inv.2 ⟨A3, c4, A6, c7, rfl, (h5.mono ((hg105.trans hg125).trans hg129)), (h8.mono ((hg105.trans hg125).trans hg129))⟩) hA130; exact ⟨_, 121, [.pointer (some ⟨b11, 0, none⟩), .pointer (some ⟨b12, 0, none⟩)], rfl, cl_121, hs_schema_predicate_typeOf_1 _ _ _ _ hy122 _ _ _ _ hI.pass0 (h127.mono hg129) h131⟩) (fun _ _ _ h => h.2) rfl ?_; clear hE hI; intro a w hI hE
    obtain ⟨y132, hy133, hF⟩ := bd hF; refine s_call0 cl_123 hI hE rfl rfl ((schema_one.ok k) _ _ _ hy133 _ _  hI.pass0 ) rfl ?_; clear hE hI; rintro a w _ G135 _ ⟨rfl, rfl⟩ hg134 hI hE
    refine run tt_ok 1 hE rfl fun a hE => ?_; refine c_end ?_; refine xT ?_; refine c_ret ?_; refine xBr ?_; refine xTr ?_; cases hF; refine r_ret (v := _) hE rfl ⟨_, _, _, rfl, hI.nil, rfl, rfl⟩
  replace hF := cf hb201 hF; refine c_skip ?_; refine xB ?_; refine xT ?_; refine c_seq ?_; refine c_reg ?_; refine run tt_ok 1 hE rfl fun a hE => ?_; obtain ⟨y139, hy140, hF⟩ := bd hF
  refine s_callV (S := fun _ L' u => L' = [] ∧ u = .int .i64 y139) hI hE rfl rfl rfl (by obtain ⟨G142, hg143, hI, hA144⟩ := (hI.front 1).giveB; have h145 : Pt G142 (some ⟨b11, 0, none⟩) 163 (D.op 165 Tschema_predicate.d) (some p0) := Pt.mk (rep_op.2 ⟨A1, rfl, (h2.mono hg143)⟩) hA144; obtain ⟨G146, hg147, hI, hA148⟩ := (hI.front 0).giveB; have h149 : Pt G146 (some ⟨b12, 0, none⟩) 117 TExpr.d (some p1) := Pt.mk (TExpr.inv.2 ⟨A3, c4, A6, c7, rfl, (h5.mono (hg143.trans hg147)), (h8.mono (hg143.trans hg147))⟩) hA148; exact ⟨_, 121, [.pointer (some ⟨b11, 0, none⟩), .pointer (some ⟨b12, 0, none⟩)], rfl, cl_121, hs_schema_predicate_typeOf_1 _ _ _ _ hy140 _ _ _ _ hI.pass0 (h145.mono hg147) h149⟩) (fun _ _ _ h => h.2) rfl ?_; clear hE hI; intro a w hI hE
  refine run tt_ok 1 hE rfl fun a hE => ?_; obtain ⟨y150, hy151, hF⟩ := bd hF
  refine s_callV (S := fun _ L' u => L' = [] ∧ u = .int .i64 y150) hI hE rfl rfl rfl (by obtain ⟨G153, hg154, hI, hA155⟩ := (hI.front 1).giveB; have h156 : Pt G153 (some ⟨b11, 0, none⟩) 163 (D.op 165 Tschema_predicate.d) (some p0) := Pt.mk (rep_op.2 ⟨A1, rfl, (h2.mono hg154)⟩) hA155; obtain ⟨G157, hg158, hI, hA159⟩ := (hI.front 0).giveB; have h160 : Pt G157 (some ⟨b12, 0, none⟩) 117 TExpr.d (some p1) := Pt.mk (TExpr.inv.2 ⟨A3, c4, A6, c7, rfl, (h5.mono (hg154.trans hg158)), (h8.mono (hg154.trans hg158))⟩) hA159; exact ⟨_, 121, [.pointer (some ⟨b11, 0, none⟩), .pointer (some ⟨b12, 0, none⟩)], rfl, cl_121, hs_schema_predicate_typeOf_1 _ _ _ _ hy151 _ _ _ _ hI.pass0 (h156.mono hg158) h160⟩) (fun _ _ _ h => h.2) rfl ?_; clear hE hI; intro a w hI hE
  refine run tt_ok 2 hE rfl fun a hE => ?_; refine c_end ?_; refine xT ?_; refine c_seq ?_; refine c_seq ?_; obtain ⟨m165, hF, hR167⟩ := bd hF
  refine c_cut (fun a' w' => ∃ (G163 : GH), G0.le G163 ∧ Env a' 84 [(6, .int .i64 y139), (7, .int .i64 y150), (71, .bool m165)] ∧ Inv w0 G0 [] G163 [] w') ?_ ?_
  · refine c_reg ?_; refine run tt_ok 1 hE rfl fun a hE => ?_; refine s_rt hI hE rfl (f_loadB tt_ok 0 rfl rfl rfl rfl) rfl fun a hE => ?_; refine run tt_ok 2 hE rfl fun a hE => ?_
    rcases bool_or (decide (p1.S = (⟨#[111, 114]⟩ : ByteArray))) with hb200 | hb200
    · replace hF := ct hb200 hF; have hE := hE.tr (t := 67) rfl hb200; clear hb200; refine run tt_ok 4 hE rfl fun a hE => ?_; refine c_end ?_; refine xT ?_; cases hF
      exact ⟨G0, (GH.le.refl _), hE.keep ⟨rfl, rfl, rfl, trivial⟩, (hI.dropN 2 rfl)⟩
    replace hF := cf hb200 hF; have hE := hE.tr (t := 67) rfl hb200; clear hb200; refine run tt_ok 1 hE rfl fun a hE => ?_; refine s_rt hI hE rfl (f_loadB tt_ok 0 rfl rfl rfl rfl) rfl fun a hE => ?_
    refine run tt_ok 2 hE rfl fun a hE => ?_; refine c_end ?_; refine xT ?_; cases hF; exact ⟨G0, (GH.le.refl _), hE.keep ⟨rfl, rfl, rfl, trivial⟩, (hI.dropN 2 rfl)⟩
  clear hE hI; rintro a w ⟨G163, hg166, hE, hI⟩; clear hF; have hF := hR167; clear hR167; refine xT ?_; refine c_if (b := m165) hE rfl (fun hb199 => ?_) (fun hb199 => ?_); rotate_left
  · replace hF := cf hb199 hF; refine c_skip ?_; refine xT ?_; refine c_seq ?_; refine c_seq ?_; refine c_reg ?_; refine run tt_ok 2 hE rfl fun a hE => ?_; obtain ⟨y194, hy195, hF⟩ := bd hF
    refine s_call0 cl_123 hI hE rfl rfl ((schema_one.ok k) _ _ _ hy195 _ _  hI.pass0 ) rfl ?_; clear hE hI; rintro a w _ G197 _ ⟨rfl, rfl⟩ hg196 hI hE; refine run tt_ok 1 hE rfl fun a hE => ?_; refine c_end ?_; refine xT ?_
    refine c_if (b := decide (y194 = (-1 : Int))) hE rfl (fun hb198 => ?_) (fun hb198 => ?_)
    · replace hF := ct hb198 hF; refine c_seq ?_; refine c_reg ?_; refine run tt_ok 1 hE rfl fun a hE => ?_; refine c_end ?_; refine xT ?_; refine c_ret ?_; refine xTr ?_; cases hF
      refine r_ret (v := _) hE rfl ⟨_, _, _, rfl, hI.nil, rfl, rfl⟩
    replace hF := cf hb198 hF; refine c_skip ?_; refine xT ?_; refine c_seq ?_; refine c_reg ?_; refine run tt_ok 1 hE rfl fun a hE => ?_; refine c_end ?_; refine xT ?_; refine c_ret ?_; cases hF
    refine r_ret (v := _) hE rfl ⟨_, _, _, rfl, hI.nil, rfl, rfl⟩
  replace hF := ct hb199 hF; refine c_seq ?_; refine c_seq ?_; obtain ⟨m180, hF, hR182⟩ := bd hF; refine c_cut (fun a' w' => ∃ (G178 : GH), G163.le G178 ∧ Env a' 84 [(79, .bool m180)] ∧ Inv w0 G0 [] G178 [] w') ?_ ?_
  rotate_left
  · clear hE hI; rintro a w ⟨G178, hg181, hE, hI⟩; clear hF; have hF := hR182; clear hR182; refine xT ?_; refine c_if (b := m180) hE rfl (fun hb183 => ?_) (fun hb183 => ?_)
    · replace hF := ct hb183 hF; refine c_seq ?_; refine c_reg ?_; refine run tt_ok 1 hE rfl fun a hE => ?_; refine c_end ?_; refine xT ?_; refine c_ret ?_; refine xTr ?_; refine xTr ?_; cases hF
      refine r_ret (v := _) hE rfl ⟨_, _, _, rfl, hI.nil, rfl, rfl⟩
    replace hF := cf hb183 hF; refine c_skip ?_; refine xT ?_; refine c_seq ?_; refine c_reg ?_; refine run tt_ok 1 hE rfl fun a hE => ?_; refine c_end ?_; refine xT ?_; refine c_ret ?_; refine xTr ?_; cases hF
    refine r_ret (v := _) hE rfl ⟨_, _, _, rfl, hI.nil, rfl, rfl⟩
  refine c_reg ?_; refine run tt_ok 1 hE rfl fun a hE => ?_; obtain ⟨y184, hy185, hF⟩ := bd hF; refine s_call0 cl_122 hI hE rfl rfl ((schema_logical.ok k) _ _ hy185 _ _  hI.pass0 ) rfl ?_; clear hE hI
  rintro a w _ G187 _ ⟨rfl, rfl⟩ hg186 hI hE; refine run tt_ok 2 hE rfl fun a hE => ?_; rcases bool_or (!y184) with hb188 | hb188
  · replace hF := ct hb188 hF; have hE := hE.tr (t := 75) rfl hb188; clear hb188; refine run tt_ok 4 hE rfl fun a hE => ?_; refine c_end ?_; refine xT ?_; cases hF; exact ⟨G187, hg186, hE.keep ⟨rfl, trivial⟩, hI⟩
  replace hF := cf hb188 hF; have hE := hE.tr (t := 75) rfl hb188; clear hb188; refine run tt_ok 1 hE rfl fun a hE => ?_; obtain ⟨y189, hy190, hF⟩ := bd hF
  refine s_call0 cl_122 hI hE rfl rfl ((schema_logical.ok k) _ _ hy190 _ _  hI.pass0 ) rfl ?_; clear hE hI; rintro a w _ G192 _ ⟨rfl, rfl⟩ hg191 hI hE; refine run tt_ok 2 hE rfl fun a hE => ?_; refine c_end ?_; refine xT ?_
  cases hF; exact ⟨G192, (hg186.trans hg191), hE.keep ⟨rfl, trivial⟩, hI⟩

theorem schema_predicate_typeOf_1.F_ok (k : Nat) (s_schema_predicate_typeOf : (Option Tschema_predicate) → TExpr → Option Int) (s_schema_predicate_typeOf_1 : Int → (Option (Option Tschema_predicate)) → (Option TExpr) → Option Int) (hs_schema_predicate_typeOf : schema_predicate_typeOf.C s_schema_predicate_typeOf) (hs_schema_predicate_typeOf_1 : schema_predicate_typeOf_1.C s_schema_predicate_typeOf_1) : schema_predicate_typeOf_1.C (schema_predicate_typeOf_1.F k s_schema_predicate_typeOf s_schema_predicate_typeOf_1) := by
  intro p0 p1 p2 r hF w0 G0 A1 A3 hI h2 h4
  unfold schema_predicate_typeOf_1.F at hF
  refine calls_of_wp Try.func121 rfl ?_
  have hE : Env _ 12 [(0, .int .i64 p0), (1, .pointer A1), (2, .pointer A3)] := Env.start ⟨[.int .i64 p0, .pointer A1, .pointer A3]⟩ 9
  refine c_seq ?_; refine c_reg ?_; refine run tt_ok 1 hE rfl fun a hE => ?_; refine c_end ?_; refine xT ?_; refine c_seq ?_; refine c_draw mixed (by kernel_rfl) hI ?_; clear hI
  rcases (h2).cases with ⟨hp19, rfl⟩ | ⟨y17, b18, cs, hp19, rfl, hR20, hA21⟩
  · cases op_n hp19 hF
  replace hF := op_s hp19 hF; obtain ⟨A22, rfl, h23⟩ := rep_op.1 hR20; refine q_rt hE rfl (f_loadG tt_ok hA21 0 rfl rfl rfl rfl) rfl fun a hE => ?_; rcases (h4).cases with ⟨hp26, rfl⟩ | ⟨y24, b25, cs, hp26, rfl, hR27, hA28⟩
  · cases op_n hp26 hF
  replace hF := op_s hp26 hF; obtain ⟨A29, c30, A32, c33, rfl, h31, h34⟩ := TExpr.inv.1 hR27; refine runq tt_ok 1 hE rfl fun a hE => ?_; refine q_rt hE rfl (f_loadG tt_ok hA28 4 rfl rfl rfl rfl) rfl fun a hE => ?_
  refine runq tt_ok 1 hE rfl fun a hE => ?_; obtain ⟨y39, hy40, hF⟩ := bd hF; obtain ⟨b35, o36, cs, hb47, hR38, hA37⟩ := sl_at h31 (getO_some hy40).1 (getO_some hy40).2
  obtain ⟨A41, c42, A44, c45, rfl, h43, h46⟩ := TExpr.inv.1 hR38; refine q_rt hE rfl (f_idx tt_ok hb47 rfl rfl rfl) rfl fun a hE => ?_; refine q_rt hE rfl (f_loadG tt_ok hA37 0 rfl rfl rfl rfl) rfl fun a hE => ?_
  obtain ⟨y48, hy49, hF⟩ := bd hF
  refine q_call cl_108 hE rfl rfl (fun w hI => hs_schema_predicate_typeOf _ _ _ hy49 _ _ _ _ hI.pass0 h23 (TExpr.inv.2 ⟨A41, c42, A44, c45, rfl, h43, h46⟩)) (fun _ _ _ h => h.2) rfl fun a hE => ?_
  refine runq tt_ok 1 hE rfl fun a hE => ?_; refine q_end ?_; intro w hI; refine xT ?_; refine c_ret ?_; cases hF; refine r_ret (v := _) hE rfl ⟨_, _, _, rfl, hI.nil, rfl, rfl⟩

theorem schema_predicate_typeOf.ok_all : ∀ k, schema_predicate_typeOf.C (schema_predicate_typeOf k) ∧ schema_predicate_typeOf_1.C (schema_predicate_typeOf_1 k)
  | 0 => ⟨(fun _ _ _ h => (by cases h)), (fun _ _ _ _ h => (by cases h))⟩
  | k + 1 => by
    have h := schema_predicate_typeOf.ok_all k
    exact ⟨schema_predicate_typeOf.F_ok k (schema_predicate_typeOf k) (schema_predicate_typeOf_1 k) h.1 h.2, schema_predicate_typeOf_1.F_ok k (schema_predicate_typeOf k) (schema_predicate_typeOf_1 k) h.1 h.2⟩

theorem schema_predicate_typeOf.ok (k : Nat) : schema_predicate_typeOf.C (schema_predicate_typeOf k) := (schema_predicate_typeOf.ok_all k).1

theorem schema_predicate_typeOf_1.ok (k : Nat) : schema_predicate_typeOf_1.C (schema_predicate_typeOf_1 k) := (schema_predicate_typeOf.ok_all k).2

theorem cl_96 : Callable Try.prog 96 := ⟨_, Try.func96, by kernel_rfl, by kernel_rfl⟩

def schema_Catalog_hide.C (s : Tschema_Catalog → TTable → TRelation → (List (ByteArray × Int)) → Option (Int × Tschema_Catalog × TRelation)) : Prop := ∀ (p0 : Tschema_Catalog) (p1 : TTable) (p2 : TRelation) (p3 : List (ByteArray × Int)) (r : Int × Tschema_Catalog × TRelation), s p0 p1 p2 p3 = some r → ∀ (w0 : World) (G0 : GH) (D0 : List Nat) (b1 : Nat) (A2 : Option Addr) (u4 : Value) (u5 : Value) (u6 : Value) (u7 : Value) (cs17 : List Value) (b19 : Nat) (A20 : Option Addr) (c21 : Nat) (A23 : Option Addr) (c24 : Nat) (A26 : Option Addr) (c27 : Nat) (A29 : Option Nat), Inv w0 G0 D0 G0 [.blk b1 [.pointer A2, u4, u5, u6, u7, .int .i64 p0.limit_] 103, .blk b19 [.string p2.Name, .int .i64 p2.Rows, .slice A20 p2.Cols.length c21, .slice A23 p2.Key.length c24, .int .i64 p2.Hide, .slice A26 p2.When.length c27] 109] w0 → (Pt G0 A2 78 Tlattice_Lattice.d p0.lattice_) → (Rep G0 p1.d cs17) → (Sl G0 A20 c21 4 (p2.Cols.map TField.d)) → (Sl G0 A23 c24 1 (p2.Key.map (D.int .i64))) → (Sl G0 A26 c27 6 (p2.When.map TExpr.d)) → (Mp G0 A29 false D.str (D.int .i64) p3) → Calls Try.prog 96 #[.pointer (some ⟨b1, 0, none⟩), .agg ⟨cs17⟩, .pointer (some ⟨b19, 0, none⟩), .map A29] w0 (Ret w0 G0 D0 fun G' L' v => ∃ A1_5 c1_5, L' = [.blk b1 [.pointer A2, u4, u5, u6, u7, .int .i64 p0.limit_] 103, .blk b19 [.string p2.Name, .int .i64 p2.Rows, .slice A20 p2.Cols.length c21, .slice A23 p2.Key.length c24, .int .i64 r.2.2.Hide, .slice A1_5 r.2.2.When.length c1_5] 109] ∧ v = .int .i64 r.1 ∧ Sl G' A1_5 c1_5 6 (r.2.2.When.map TExpr.d))

theorem schema_Catalog_hide.ok (k : Nat) : schema_Catalog_hide.C (schema_Catalog_hide k) := by
  intro p0 p1 p2 p3 r hF w0 G0 D0 b1 A2 u4 u5 u6 u7 cs17 b19 A20 c21 A23 c24 A26 c27 A29 hI h3 hR18 h22 h25 h28 h30
  unfold schema_Catalog_hide at hF
  obtain ⟨A8, c9, A11, c12, A14, c15, rfl, h10, h13, h16⟩ := TTable.inv.1 hR18
  refine calls_of_wp Try.func96 rfl ?_
  have hE : Env _ 117 [(0, .pointer (some ⟨b1, 0, none⟩)), (1, .agg ⟨[.string p1.Name, .string p1.Rows, .slice A8 p1.Cols.length c9, .slice A11 p1.Key.length c12, .string p1.Hide, .slice A14 p1.When.length c15]⟩), (2, .pointer (some ⟨b19, 0, none⟩)), (3, .map A29)] := Env.start ⟨[.pointer (some ⟨b1, 0, none⟩), .agg ⟨[.string p1.Name, .string p1.Rows, .slice A8 p1.Cols.length c9, .slice A11 p1.Key.length c12, .string p1.Hide, .slice A14 p1.When.length c15]⟩, .pointer (some ⟨b19, 0, none⟩), .map A29]⟩ 113
  refine c_seq ?_; refine c_reg ?_; refine s_box hI hE rfl rfl rfl rfl fun a w b31 hE hI => ?_; refine run tt_ok 1 hE rfl fun a hE => ?_; refine c_end ?_; refine xT ?_; refine c_seq ?_; refine c_seq ?_
  obtain ⟨m36, hF, hR38⟩ := bd hF
  refine c_cut (fun a' w' => ∃ (G34 : GH), G0.le G34 ∧ Env a' 117 [(0, .pointer (some ⟨b1, 0, none⟩)), (2, .pointer (some ⟨b19, 0, none⟩)), (3, .map A29), (5, .pointer (some ⟨b31, 0, none⟩)), (23, .bool m36)] ∧ Inv w0 G0 D0 G34 [.blk b31 [.string p1.Name, .string p1.Rows, .slice A8 p1.Cols.length c9, .slice A11 p1.Key.length c12, .string p1.Hide, .slice A14 p1.When.length c15] 135, .blk b1 [.pointer A2, u4, u5, u6, u7, .int .i64 p0.limit_] 103, .blk b19 [.string p2.Name, .int .i64 p2.Rows, .slice A20 p2.Cols.length c21, .slice A23 p2.Key.length c24, .int .i64 p2.Hide, .slice A26 p2.When.length c27] 109] w') ?_ ?_
  · refine c_reg ?_; refine run tt_ok 1 hE rfl fun a hE => ?_; refine s_rt hI hE rfl (f_loadB tt_ok 0 rfl rfl rfl rfl) rfl fun a hE => ?_; refine run tt_ok 2 hE rfl fun a hE => ?_
    rcases bool_or (decide (p1.Hide = (⟨#[]⟩ : ByteArray))) with hb291 | hb291; rotate_left
    · replace hF := cf hb291 hF; have hE := hE.tr (t := 18) rfl hb291; clear hb291; refine run tt_ok 5 hE rfl fun a hE => ?_; refine c_end ?_; refine xT ?_; cases hF
      exact ⟨G0, (GH.le.refl _), hE.keep ⟨rfl, rfl, rfl, rfl, rfl, trivial⟩, hI⟩
    replace hF := ct hb291 hF; have hE := hE.tr (t := 18) rfl hb291; clear hb291; refine run tt_ok 1 hE rfl fun a hE => ?_; refine s_rt hI hE rfl (f_loadB tt_ok 0 rfl rfl rfl rfl) rfl fun a hE => ?_
    refine run tt_ok 3 hE rfl fun a hE => ?_; refine c_end ?_; refine xT ?_; cases hF; exact ⟨G0, (GH.le.refl _), hE.keep ⟨rfl, rfl, rfl, rfl, rfl, trivial⟩, hI⟩
  clear hE hI; rintro a w ⟨G34, hg37, hE, hI⟩; clear hF; have hF := hR38; clear hR38; refine xT ?_; refine c_if (b := m36) hE rfl (fun hb290 => ?_) (fun hb290 => ?_)
  · replace hF := ct hb290 hF; refine c_seq ?_; refine c_reg ?_; refine run tt_ok 1 hE rfl fun a hE => ?_; refine c_end ?_; refine xT ?_; refine c_ret ?_; refine xTr ?_; cases hF
    refine r_ret (v := _) hE rfl ⟨_, _, _, rfl, (hI.pick [1, 2] (by decide) rfl), A26, c27, rfl, rfl, (h28.mono hg37)⟩
  replace hF := cf hb290 hF; refine c_skip ?_; refine xT ?_; refine c_seq ?_; refine c_draw mixed (by kernel_rfl) hI ?_; clear hI; refine runq tt_ok 3 hE rfl fun a hE => ?_
  refine q_rt hE rfl (f_loadB tt_ok 1 rfl rfl rfl rfl) rfl fun a hE => ?_; refine runq tt_ok 1 hE rfl fun a hE => ?_; refine q_rt hE rfl (f_loadB tt_ok 0 rfl rfl rfl rfl) rfl fun a hE => ?_; obtain ⟨y42, hy43, hF⟩ := bd hF
  refine q_call cl_19 hE rfl rfl (fun w hI => (lattice_Lattice_Find.ok k) _ _ _ hy43 _ _ _ hI.pass0 (h3.mono hg37)) (fun _ _ _ h => h.2) rfl fun a hE => ?_; refine runq tt_ok 5 hE rfl fun a hE => ?_
  refine q_end ?_; intro w hI; refine xT ?_; refine c_seq ?_; refine c_block ?_; refine c_seq ?_; refine c_reg ?_; refine run tt_ok 3 hE rfl fun a hE => ?_; refine c_end ?_; refine xT ?_
  refine c_if (b := !y42.2) hE rfl (fun hb289 => ?_) (fun hb289 => ?_)
  · replace hF := ct hb289 hF; refine c_seq ?_; refine c_reg ?_; refine run tt_ok 1 hE rfl fun a hE => ?_; refine c_end ?_; refine xT ?_; refine c_ret ?_; refine xBr ?_; refine xTr ?_; cases hF
    refine r_ret (v := _) hE rfl ⟨_, _, _, rfl, (hI.pick [1, 2] (by decide) rfl), A26, c27, rfl, rfl, (h28.mono hg37)⟩
  replace hF := cf hb289 hF; refine c_seq ?_; refine c_draw mixed (by kernel_rfl) hI ?_; clear hI; refine runq tt_ok 3 hE rfl fun a hE => ?_; refine q_rt hE rfl (f_loadB tt_ok 1 rfl rfl rfl rfl) rfl fun a hE => ?_
  refine runq tt_ok 3 hE rfl fun a hE => ?_; refine q_rt hE rfl (f_loadB tt_ok 2 rfl rfl rfl rfl) rfl fun a hE => ?_; refine runq tt_ok 1 hE rfl fun a hE => ?_; obtain ⟨y47, hy48, hF⟩ := bd hF
  refine q_call cl_13 hE rfl rfl (fun w hI => (lattice_Lattice_Leq.ok k) _ _ _ _ hy48 _ _ _ hI.pass0 (h3.mono hg37)) (fun _ _ _ h => h.2) rfl fun a hE => ?_; refine runq tt_ok 2 hE rfl fun a hE => ?_
  refine q_end ?_; intro w hI; refine xT ?_; refine c_if (b := !y47) hE rfl (fun hb288 => ?_) (fun hb288 => ?_)
  · replace hF := ct hb288 hF; refine c_seq ?_; refine c_reg ?_; refine run tt_ok 1 hE rfl fun a hE => ?_; refine c_end ?_; refine xT ?_; refine c_ret ?_; refine xBr ?_; refine xTr ?_; cases hF
    refine r_ret (v := _) hE rfl ⟨_, _, _, rfl, (hI.pick [1, 2] (by decide) rfl), A26, c27, rfl, rfl, (h28.mono hg37)⟩
  replace hF := cf hb288 hF; refine c_seq ?_; refine c_reg ?_; refine run tt_ok 1 hE rfl fun a hE => ?_; refine s_rt hI hE rfl (f_loadB tt_ok 0 rfl rfl rfl rfl) rfl fun a hE => ?_; refine run tt_ok 3 hE rfl fun a hE => ?_
  refine c_end ?_; refine xT ?_; refine c_if (b := !decide ((p1.When.length : Int) = (1 : Int))) hE rfl (fun hb287 => ?_) (fun hb287 => ?_)
  · replace hF := ct hb287 hF; refine c_seq ?_; refine c_reg ?_; refine run tt_ok 1 hE rfl fun a hE => ?_; refine c_end ?_; refine xT ?_; refine c_ret ?_; refine xBr ?_; refine xTr ?_; cases hF
    refine r_ret (v := _) hE rfl ⟨_, _, _, rfl, (hI.pick [1, 2] (by decide) rfl), A26, c27, rfl, rfl, (h28.mono hg37)⟩
  replace hF := cf hb287 hF; refine c_skip ?_; refine xB ?_; refine xT ?_; refine c_seq ?_; refine c_reg ?_; refine run tt_ok 1 hE rfl fun a hE => ?_
  refine s_rt hI hE rfl (f_loadB tt_ok 0 rfl rfl rfl rfl) rfl fun a hE => ?_; refine run tt_ok 2 hE rfl fun a hE => ?_; refine s_rt hI hE rfl (f_build tt_ok rfl z_165 rfl rfl) rfl fun a hE => ?_
  refine s_box hI hE rfl rfl rfl rfl fun a w b55 hE hI => ?_; refine run tt_ok 1 hE rfl fun a hE => ?_; refine c_end ?_; refine xT ?_; refine c_seq ?_; refine c_seq ?_; refine c_reg ?_
  refine run tt_ok 2 hE rfl fun a hE => ?_; refine s_rt hI hE rfl (f_loadB tt_ok 1 rfl rfl rfl rfl) rfl fun a hE => ?_; obtain ⟨y72, hy73, hF⟩ := bd hF
  obtain ⟨b68, o69, cs, hb80, hR71, hA70⟩ := sl_at (h16.mono hg37) (getO_some hy73).1 (getO_some hy73).2; obtain ⟨A74, c75, A77, c78, rfl, h76, h79⟩ := TExpr.inv.1 hR71
  refine s_rt hI hE rfl (f_idx tt_ok hb80 rfl rfl rfl) rfl fun a hE => ?_; refine s_rt hI hE rfl (f_loadG tt_ok hA70 0 rfl rfl rfl rfl) rfl fun a hE => ?_; have hI := hI.nilrow 3 1
  have hR85 : RL G34 1 (([] : List Int).map (D.int .i64)) [] := RL.nil; have hI := hI.pick [1, 0, 2, 3, 4] (by decide) rfl; obtain ⟨y81, hy82, hF⟩ := bd hF
  refine s_callM [.blk b55 [.string p1.Name, .map A29, .pointer (some ⟨b19, 0, none⟩), .slice none 0 0] 165, .row (.slice none 0 0) 3 1 0 []] [.blk b31 [.string p1.Name, .string p1.Rows, .slice A8 p1.Cols.length c9, .slice A11 p1.Key.length c12, .string p1.Hide, .slice A14 p1.When.length c15] 135, .blk b1 [.pointer A2, u4, u5, u6, u7, .int .i64 p0.limit_] 103, .blk b19 [.string p2.Name, .int .i64 p2.Rows, .slice A20 p2.Cols.length c21, .slice A23 p2.Key.length c24, .int .i64 p2.Hide, .slice A26 p2.When.length c27] 109] cl_107 hI hE rfl rfl (fun hIp => (schema_predicate_shape.ok k) _ _ _ _ hy82 _ _ _ _ _ _ _ _ _ _ hIp (h30.mono hg37) hR85 (TExpr.inv.2 ⟨A74, c75, A77, c78, rfl, h76, h79⟩)) rfl ?_; clear hE hI
  rintro a w _ G86 _ ⟨A88, c89, cs90, rfl, rfl, hR91⟩ hg83 hI hE; refine run tt_ok 1 hE rfl fun a hE => ?_; refine c_end ?_; refine xT ?_; refine c_if (b := !y81.1) hE rfl (fun hb286 => ?_) (fun hb286 => ?_)
  · replace hF := ct hb286 hF; refine c_seq ?_; refine c_reg ?_; refine run tt_ok 1 hE rfl fun a hE => ?_; refine c_end ?_; refine xT ?_; refine c_ret ?_; refine xTr ?_; cases hF
    refine r_ret (v := _) hE rfl ⟨_, _, _, rfl, (hI.pick [3, 4] (by decide) rfl), A26, c27, rfl, rfl, (h28.mono (hg37.trans hg83))⟩
  replace hF := cf hb286 hF; refine c_skip ?_; refine xT ?_; refine c_seq ?_; refine c_seq ?_; refine c_reg ?_; refine run tt_ok 2 hE rfl fun a hE => ?_
  refine s_rt hI hE rfl (f_loadB tt_ok 2 rfl rfl rfl rfl) rfl fun a hE => ?_; obtain ⟨b104, o105, cs, hb114, hR107, hA106⟩ := sl_at (h16.mono (hg37.trans hg83)) (getO_some hy73).1 (getO_some hy73).2
  obtain ⟨A108, c109, A111, c112, rfl, h110, h113⟩ := TExpr.inv.1 hR107; refine s_rt hI hE rfl (f_idx tt_ok hb114 rfl rfl rfl) rfl fun a hE => ?_
  refine s_rt hI hE rfl (f_loadG tt_ok hA106 0 rfl rfl rfl rfl) rfl fun a hE => ?_; obtain ⟨y115, hy116, hF⟩ := bd hF
  refine s_callL (S := fun _ L' u => L' = [] ∧ u = .int .i64 y115) cl_108 hI hE rfl rfl (by obtain ⟨G118, hg119, hI, hA120⟩ := (hI.front 4).giveB; have h121 : Pt G118 (some ⟨b19, 0, none⟩) 109 TRelation.d (some p2) := Pt.mk (TRelation.inv.2 ⟨A20, c21, A23, c24, A26, c27, rfl, (h22.mono ((hg37.trans hg83).trans hg119)), (h25.mono ((hg37.trans hg83).trans hg119)), (h28.mono ((hg37.trans hg83).trans hg119))⟩) hA120; obtain ⟨G122, hg123, hI, h124⟩ := (hI.front 1).giveR (xs := y81.2.used_.map (D.int .i64)) (by simp) (hR91.mono hg119); obtain ⟨G125, hg126, hI, hA127⟩ := (hI.front 0).giveB; have h128 : Pt G125 (some ⟨b55, 0, none⟩) 165 Tschema_predicate.d (some (Tschema_predicate.mk p1.Name p3 (some p2) y81.2.used_)) := Pt.mk (Tschema_predicate.inv.2 ⟨A29, (some ⟨b19, 0, none⟩), A88, c89, rfl, (h30.mono ((((hg37.trans hg83).trans hg119).trans hg123).trans hg126)), (h121.mono (hg123.trans hg126)), (h124.mono hg126)⟩) hA127; exact ⟨_, (schema_predicate_typeOf.ok k) _ _ _ hy116 _ _ _ _ hI.pass0 h128 (TExpr.inv.2 ⟨A108, c109, A111, c112, rfl, (h110.mono ((hg119.trans hg123).trans hg126)), (h113.mono ((hg119.trans hg123).trans hg126))⟩)⟩) (fun _ _ _ h => h.2) rfl ?_; clear hE hI; intro a w hI hE
  refine run tt_ok 1 hE rfl fun a hE => ?_; refine c_end ?_; refine xT ?_; refine c_seq ?_; obtain ⟨m132, hF, hR134⟩ := bd hF
  refine c_cut (fun a' w' => ∃ (G130 : GH), G86.le G130 ∧ Env a' 117 [(0, .pointer (some ⟨b1, 0, none⟩)), (2, .pointer (some ⟨b19, 0, none⟩)), (5, .pointer (some ⟨b31, 0, none⟩)), (9, .int .i64 y42.1), (11, .pointer (some ⟨b55, 0, none⟩)), (78, .bool m132)] ∧ Inv w0 G0 D0 G130 [.blk b55 [.string p1.Name, .map A29, .pointer (some ⟨b19, 0, none⟩), .slice A88 y81.2.used_.length c89] 165, .row (.slice A88 y81.2.used_.length c89) 3 1 y81.2.used_.length cs90, .blk b31 [.string p1.Name, .string p1.Rows, .slice A8 p1.Cols.length c9, .slice A11 p1.Key.length c12, .string p1.Hide, .slice A14 p1.When.length c15] 135, .blk b1 [.pointer A2, u4, u5, u6, u7, .int .i64 p0.limit_] 103, .blk b19 [.string p2.Name, .int .i64 p2.Rows, .slice A20 p2.Cols.length c21, .slice A23 p2.Key.length c24, .int .i64 p2.Hide, .slice A26 p2.When.length c27] 109] w') ?_ ?_
  · refine c_reg ?_; refine run tt_ok 3 hE rfl fun a hE => ?_; rcases bool_or (!decide (y115 = (1 : Int))) with hb285 | hb285
    · replace hF := ct hb285 hF; have hE := hE.tr (t := 75) rfl hb285; clear hb285; refine run tt_ok 3 hE rfl fun a hE => ?_; refine c_end ?_; refine xT ?_; cases hF
      exact ⟨G86, (GH.le.refl _), hE.keep ⟨rfl, rfl, rfl, rfl, rfl, rfl, trivial⟩, hI⟩
    replace hF := cf hb285 hF; have hE := hE.tr (t := 75) rfl hb285; clear hb285; refine run tt_ok 3 hE rfl fun a hE => ?_; refine c_end ?_; refine xT ?_; cases hF
    exact ⟨G86, (GH.le.refl _), hE.keep ⟨rfl, rfl, rfl, rfl, rfl, rfl, trivial⟩, hI⟩
  clear hE hI; rintro a w ⟨G130, hg133, hE, hI⟩; clear hF; have hF := hR134; clear hR134; refine xT ?_; refine c_if (b := m132) hE rfl (fun hb284 => ?_) (fun hb284 => ?_)
  · replace hF := ct hb284 hF; refine c_seq ?_; refine c_reg ?_; refine run tt_ok 1 hE rfl fun a hE => ?_; refine c_end ?_; refine xT ?_; refine c_ret ?_; refine xTr ?_; cases hF
    refine r_ret (v := _) hE rfl ⟨_, _, _, rfl, (hI.pick [3, 4] (by decide) rfl), A26, c27, rfl, rfl, (h28.mono ((hg37.trans hg83).trans hg133))⟩
  replace hF := cf hb284 hF; refine c_skip ?_; refine xT ?_; refine c_seq ?_; refine c_seq ?_; refine c_reg ?_; refine run tt_ok 3 hE rfl fun a hE => ?_
  refine s_rt hI hE rfl (f_loadB tt_ok 0 rfl rfl rfl rfl) rfl fun a hE => ?_; refine run tt_ok 2 hE rfl fun a hE => ?_; refine c_end ?_; refine xT ?_; have hl257 := hI.rle (xs := y81.2.used_) 1 rfl
  obtain ⟨o221, hO222, hK223⟩ := bd hF; clear hF
  refine c_cut (fun a' w' => ∃ (s225 : (List Int)) (G226 : GH) (A228 : Option Addr) (c229 : Nat) (cs230 : List Value), o221 = .go s225 ∧ G130.le G226 ∧ Env a' 117 [(2, .pointer (some ⟨b19, 0, none⟩)), (5, .pointer (some ⟨b31, 0, none⟩)), (9, .int .i64 y42.1)] ∧ Inv w0 G0 D0 G226 [.row (.slice A228 s225.length c229) 3 1 s225.length cs230, .blk b31 [.string p1.Name, .string p1.Rows, .slice A8 p1.Cols.length c9, .slice A11 p1.Key.length c12, .string p1.Hide, .slice A14 p1.When.length c15] 135, .blk b1 [.pointer A2, u4, u5, u6, u7, .int .i64 p0.limit_] 103, .blk b19 [.string p2.Name, .int .i64 p2.Rows, .slice A20 p2.Cols.length c21, .slice A23 p2.Key.length c24, .int .i64 p2.Hide, .slice A26 p2.When.length c27] 109] w' ∧ RL G226 1 (s225.map (D.int .i64)) cs230) ?_ ?_
  rotate_left
  · clear hE hI hO222; rintro a w ⟨s225, G226, A228, c229, cs230, rfl, hg232, hE, hI, hR231⟩; have hF := lrk_go hK223; clear hK223; refine xT ?_; refine c_seq ?_; refine c_reg ?_; refine run tt_ok 4 hE rfl fun a hE => ?_
    refine s_rt hI hE rfl (f_loadB tt_ok 1 rfl rfl rfl rfl) rfl fun a hE => ?_; obtain ⟨y241, hy242, hF⟩ := bd hF
    refine s_call0 cl_73 hI hE rfl rfl ((slices_Clone_api_Expr_api_Expr.ok k) _ _ hy242 _ _ _ _ hI.pass0 (h16.mono (((hg37.trans hg83).trans hg133).trans hg232))) rfl ?_; clear hE hI
    rintro a w _ G244 _ ⟨rfl, A245, c246, rfl, h247⟩ hg243 hI hE; refine run tt_ok 2 hE rfl fun a hE => ?_; refine s_storeB tt_ok 3 hI hE rfl rfl rfl rfl rfl rfl rfl rfl rfl rfl fun a w hE hI => ?_
    refine run tt_ok 2 hE rfl fun a hE => ?_; refine s_storeB tt_ok 3 hI hE rfl rfl rfl rfl rfl rfl rfl rfl rfl rfl fun a w hE hI => ?_; refine c_end ?_; refine xT ?_; refine c_seq ?_; refine c_reg ?_
    refine run tt_ok 1 hE rfl fun a hE => ?_; refine c_end ?_; refine xT ?_; refine c_ret ?_; cases hF; refine r_ret (v := _) hE rfl ⟨_, _, _, rfl, (hI.pick [2, 3] (by decide) rfl), A245, c246, rfl, rfl, h247⟩
  refine c_block ?_
  refine wp_loop_ghost (fun n' a' w' => ∃ (i250 : Nat) (rest252 : List Int) (s220 : (List Int)) (G214 : GH) (A216 : Option Addr) (c217 : Nat) (cs218 : List Value), n' = rest252.length ∧ i250 ≤ y81.2.used_.length ∧ y81.2.used_.drop i250 = rest252 ∧ forL (schema_Catalog_hide.b0 k p2 p0) i250 rest252 s220 = some o221 ∧ G130.le G214 ∧ Env a' 117 [(84, .int .i64 (i250 : Int)), (0, .pointer (some ⟨b1, 0, none⟩)), (2, .pointer (some ⟨b19, 0, none⟩)), (5, .pointer (some ⟨b31, 0, none⟩)), (9, .int .i64 y42.1), (82, .slice A216 s220.length c217), (83, .int .i64 (y81.2.used_.length : Int))] ∧ Inv w0 G0 D0 G214 [.row (.slice A216 s220.length c217) 3 1 s220.length cs218, .blk b31 [.string p1.Name, .string p1.Rows, .slice A8 p1.Cols.length c9, .slice A11 p1.Key.length c12, .string p1.Hide, .slice A14 p1.When.length c15] 135, .blk b1 [.pointer A2, u4, u5, u6, u7, .int .i64 p0.limit_] 103, .blk b19 [.string p2.Name, .int .i64 p2.Rows, .slice A20 p2.Cols.length c21, .slice A23 p2.Key.length c24, .int .i64 p2.Hide, .slice A26 p2.When.length c27] 109] w' ∧ RL G214 1 (s220.map (D.int .i64)) cs218) _ ⟨0, _, _, G130, A88, c89, cs90, rfl, Nat.zero_le _, rfl, hO222, (GH.le.refl _), hE.keep ⟨rfl, rfl, rfl, rfl, rfl, rfl, rfl, trivial⟩, (hI.dropN 1 rfl), (hR91.mono hg133)⟩ ?_
  clear hE hI hO222; rintro m249 a w ⟨i250, rest252, s220, G214, A216, c217, cs218, rfl, hi256, hd253, hO222, hg224, hE, hI, hR219⟩; rcases rest252 with _ | ⟨x251, rest252⟩
  · obtain rfl := forL_nil hO222; have hlt255 := drop_nil hd253 hi256; clear hd253; refine c_seq ?_; refine c_reg ?_; refine run tt_ok 1 hE rfl fun a hE => ?_; refine c_end ?_; refine xT ?_; refine c_seq ?_
    have hE := hE.tr (t := 85) rfl (decide_eq_false (by omega)); refine c_false hE rfl ?_; refine c_exit ?_; refine xTe ?_; refine xTe ?_; refine xBh ?_; refine xT ?_
    exact ⟨_, G214, A216, c217, cs218, rfl, hg224, hE.keep ⟨rfl, rfl, rfl, trivial⟩, hI, hR219⟩
  obtain ⟨stp248, hF, hO222⟩ := forL_step hO222; obtain ⟨hx254, hd253, hlt255⟩ := drop_cons hd253; unfold schema_Catalog_hide.b0 at hF; refine c_seq ?_; refine c_reg ?_; refine run tt_ok 1 hE rfl fun a hE => ?_
  refine c_end ?_; refine xT ?_; refine c_seq ?_; have hE := hE.tr (t := 85) rfl (decide_eq_true (by omega)); refine c_true hE rfl ?_; refine c_skip ?_; refine xT ?_; refine c_seq ?_; refine c_block ?_; refine c_seq ?_
  refine c_reg ?_; obtain ⟨y259, hy260, hF⟩ := bd hF; obtain ⟨b265, rfl⟩ := row_ptr 0 hI rfl rfl (getO_some hy260).2; obtain ⟨ec261, hel262, hrep263, hcs264⟩ := rl_at hR219 (getO_some hy260).2
  obtain rfl := rep_int.1 hrep263; refine s_rt hI hE rfl (f_idx tt_ok (row_idx (getO_some hy260).1 (getO_some hy260).2 b265 1) rfl rfl rfl) rfl fun a hE => ?_
  refine s_rt hI hE rfl (f_loadR tt_ok 0 rfl hcs264 0 rfl rfl rfl rfl (row_len hR219 (getO_some hy260).2)) rfl fun a hE => ?_; refine run tt_ok 1 hE rfl fun a hE => ?_; refine c_end ?_; refine xT ?_; refine c_seq ?_
  refine c_draw mixed (by kernel_rfl) hI ?_; clear hI; refine runq tt_ok 3 hE rfl fun a hE => ?_; refine q_rt hE rfl (f_loadB tt_ok 2 rfl rfl rfl rfl) rfl fun a hE => ?_; refine runq tt_ok 3 hE rfl fun a hE => ?_
  refine q_rt hE rfl (f_loadB tt_ok 3 rfl rfl rfl rfl) rfl fun a hE => ?_; refine runq tt_ok 1 hE rfl fun a hE => ?_; obtain ⟨y277, hy278, hF⟩ := bd hF
  obtain ⟨b273, o274, cs, hb279, hR276, hA275⟩ := sl_at (h22.mono (((hg37.trans hg83).trans hg133).trans hg224)) (getO_some hy278).1 (getO_some hy278).2; obtain rfl := TField.inv.1 hR276
  refine q_rt hE rfl (f_idx tt_ok hb279 rfl rfl rfl) rfl fun a hE => ?_; refine runq tt_ok 1 hE rfl fun a hE => ?_; refine q_rt hE rfl (f_loadG tt_ok hA275 3 rfl rfl rfl rfl) rfl fun a hE => ?_
  refine runq tt_ok 3 hE rfl fun a hE => ?_; refine q_rt hE rfl (f_loadB tt_ok 3 rfl rfl rfl rfl) rfl fun a hE => ?_; obtain ⟨y280, hy281, hF⟩ := bd hF
  refine q_call cl_13 hE rfl rfl (fun w hI => (lattice_Lattice_Leq.ok k) _ _ _ _ hy281 _ _ _ hI.pass0 (h3.mono (((hg37.trans hg83).trans hg133).trans hg224))) (fun _ _ _ h => h.2) rfl fun a hE => ?_
  refine runq tt_ok 1 hE rfl fun a hE => ?_; refine q_end ?_; intro w hI; refine xT ?_; refine c_if (b := !y280) hE rfl (fun hb283 => ?_) (fun hb283 => ?_); rotate_left
  · replace hF := cf hb283 hF; refine c_skip ?_; refine xB ?_; refine xT ?_; refine c_reg ?_; refine run tt_ok 2 hE rfl fun a hE => ?_; refine c_end ?_; refine xT ?_; cases hF
    have hE := hE.setI (t := 84) rfl (w64_succ hlt255 hl257)
    exact ⟨rest252.length, Nat.lt_succ_self _, i250 + 1, rest252, _, G214, (some ⟨b265, 0, none⟩), c217, cs218, rfl, hlt255, hd253, hO222, hg224, hE.keep ⟨rfl, rfl, rfl, rfl, rfl, rfl, rfl, trivial⟩, hI, hR219⟩
  replace hF := ct hb283 hF; refine c_seq ?_; refine c_reg ?_; refine run tt_ok 1 hE rfl fun a hE => ?_; refine c_end ?_; refine xT ?_; refine c_ret ?_; refine xBr ?_; refine xTr ?_; refine xTr ?_; refine xBr ?_
  refine xTr ?_; refine xTr ?_; cases hF; obtain rfl := nxt_ret hO222; have hF := lrk_ret hK223; cases hF
  refine r_ret (v := _) hE rfl ⟨_, _, _, rfl, (hI.pick [2, 3] (by decide) rfl), A26, c27, rfl, rfl, (h28.mono (((hg37.trans hg83).trans hg133).trans hg224))⟩

theorem cl_84 : Callable Try.prog 84 := ⟨_, Try.func84, by kernel_rfl, by kernel_rfl⟩

def schema_Catalog_table.C (s : Tschema_Catalog → TTable → Option (Int × Tschema_Catalog)) : Prop := ∀ (p0 : Tschema_Catalog) (p1 : TTable) (r : Int × Tschema_Catalog), s p0 p1 = some r → ∀ (w0 : World) (G0 : GH) (D0 : List Nat) (b1 : Nat) (A2 : Option Addr) (A6 : Option Addr) (c7 : Nat) (cs8 : List Value) (m11 : Nat) (es13 : Array MapEntry) (cl14 : Nat) (A16 : Option Addr) (c17 : Nat) (A19 : Option Addr) (c20 : Nat) (cs31 : List Value), Inv w0 G0 D0 G0 [.blk b1 [.pointer A2, .slice A6 p0.tables_.length c7, .map (some m11), .slice A16 p0.channels_.length c17, .slice A19 p0.principals_.length c20, .int .i64 p0.limit_] 103, .row (.slice A6 p0.tables_.length c7) 109 6 p0.tables_.length cs8, .map m11 es13 cl14] w0 → (Pt G0 A2 78 Tlattice_Lattice.d p0.lattice_) → (RL G0 6 (p0.tables_.map TRelation.d) cs8) → (RM G0 false D.str (D.int .i64) p0.at_ es13.toList) → (Sl G0 A16 c17 2 (p0.channels_.map TNamed.d)) → (Sl G0 A19 c20 2 (p0.principals_.map TNamed.d)) → (Rep G0 p1.d cs31) → Calls Try.prog 84 #[.pointer (some ⟨b1, 0, none⟩), .agg ⟨cs31⟩] w0 (Ret w0 G0 D0 fun G' L' v => ∃ A0_1 c0_1 e0_1 e0_2 c0_2, L' = [.blk b1 [.pointer A2, .slice A0_1 r.2.tables_.length c0_1, .map (some m11), .slice A16 p0.channels_.length c17, .slice A19 p0.principals_.length c20, .int .i64 p0.limit_] 103, .row (.slice A0_1 r.2.tables_.length c0_1) 109 6 r.2.tables_.length e0_1, .map m11 e0_2 c0_2] ∧ v = .int .i64 r.1 ∧ RL G' 6 (r.2.tables_.map TRelation.d) e0_1 ∧ RM G' false D.str (D.int .i64) r.2.at_ e0_2.toList)
end Go.Proofs.Ytliaopbgkcdibaa
