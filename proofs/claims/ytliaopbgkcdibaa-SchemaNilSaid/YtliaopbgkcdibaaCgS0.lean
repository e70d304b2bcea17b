/- The contracts: what the machine does at a call is what the plain function says. Written by mk.py. -/
import Derived.Test.YtliaopbgkcdibaaCtS
set_option linter.unusedVariables false
set_option linter.unusedSimpArgs false
set_option maxRecDepth 100000
namespace Go.Proofs.Ytliaopbgkcdibaa
open Go.RowKit
theorem cl_32 : Callable Try.prog 32 := ⟨_, Try.func32, by kernel_rfl, by kernel_rfl⟩

def schema_Catalog_Table.C (s : (Option Tschema_Catalog) → ByteArray → Option (Int × Bool)) : Prop := ∀ (p0 : Option Tschema_Catalog) (p1 : ByteArray) (r : Int × Bool), s p0 p1 = some r → ∀ (w0 : World) (G0 : GH) (A1 : Option Addr), Inv w0 G0 [] G0 [] w0 → (Pt G0 A1 103 Tschema_Catalog.d p0) → Calls Try.prog 32 #[.pointer A1, .string p1] w0 (Ret w0 G0 [] fun G' L' v => L' = [] ∧ v = .tuple ⟨[.int .i64 r.1, .bool r.2]⟩)

theorem schema_Catalog_Table.ok (k : Nat) : schema_Catalog_Table.C (schema_Catalog_Table k) := by
  intro p0 p1 r hF w0 G0 A1 hI h2
  unfold schema_Catalog_Table at hF
  refine calls_of_wp Try.func32 rfl ?_
  have hE : Env _ 21 [(0, .pointer A1), (1, .string p1)] := Env.start ⟨[.pointer A1, .string p1]⟩ 19
  refine c_seq ?_; refine c_reg ?_; refine run tt_ok 2 hE rfl fun a hE => ?_; refine c_end ?_; refine xT ?_; refine c_seq ?_; refine c_seq ?_; refine c_reg ?_; refine run tt_ok 1 hE rfl fun a hE => ?_
  refine s_rt hI hE rfl (f_pnil up_63 h2 rfl rfl) rfl fun a hE => ?_; refine c_end ?_; refine xT ?_; refine c_if (b := p0.isNone) hE rfl (fun hb29 => ?_) (fun hb29 => ?_)
  · replace hF := ct hb29 hF; refine c_seq ?_; refine c_reg ?_; refine run tt_ok 2 hE rfl fun a hE => ?_; refine c_end ?_; refine xT ?_; refine c_ret ?_; refine xTr ?_; cases hF
    refine r_ret (v := _) hE rfl ⟨_, _, _, rfl, hI.nil, rfl, rfl⟩
  replace hF := cf hb29 hF; refine c_skip ?_; refine xT ?_; refine c_seq ?_; refine c_reg ?_; refine run tt_ok 1 hE rfl fun a hE => ?_; rcases (h2).cases with ⟨hp8, rfl⟩ | ⟨y6, b7, cs, hp8, rfl, hR9, hA10⟩
  · cases op_n hp8 hF
  replace hF := op_s hp8 hF; obtain ⟨A11, A13, c14, A16, A18, c19, A21, c22, rfl, h12, h15, h17, h20, h23⟩ := Tschema_Catalog.inv.1 hR9; refine run tt_ok 2 hE rfl fun a hE => ?_
  refine s_rt hI hE rfl (f_loadG tt_ok hA10 2 rfl rfl rfl rfl) rfl fun a hE => ?_; refine run tt_ok 1 hE rfl fun a hE => ?_
  obtain ⟨c24, u25, hr26, hu27, hrt28⟩ := f_lookG key_str h17 um_73 uk_9 true hE (L := []) (x := .tmp 14) (y := .tmp 15) rfl rfl z_3 (rep_int.2 rfl) rfl; obtain rfl : c24 = [u25] := hu27; obtain rfl := rep1_int.1 hr26
  refine s_rt hI hE rfl (hrt28 _ _ _) rfl fun a hE => ?_; refine run tt_ok 5 hE rfl fun a hE => ?_; refine c_end ?_; refine xT ?_; refine c_seq ?_; refine c_reg ?_; refine run tt_ok 4 hE rfl fun a hE => ?_; refine c_end ?_
  refine xT ?_; refine c_ret ?_; cases hF; refine r_ret (v := _) hE rfl ⟨_, _, _, rfl, hI.nil, rfl, rfl⟩

theorem cl_74 : Callable Try.prog 74 := ⟨_, Try.func74, by kernel_rfl, by kernel_rfl⟩

def slices_Clone_api_Named_api_Named.C (s : (List TNamed) → Option (List TNamed)) : Prop := ∀ (p0 : List TNamed) (r : (List TNamed)), s p0 = some r → ∀ (w0 : World) (G0 : GH) (A1 : Option Addr) (c2 : Nat), Inv w0 G0 [] G0 [] w0 → (Sl G0 A1 c2 2 (p0.map TNamed.d)) → Calls Try.prog 74 #[.slice A1 p0.length c2] w0 (Ret w0 G0 [] fun G' L' v => L' = [] ∧ ∃ A0 c0, v = .slice A0 r.length c0 ∧ Sl G' A0 c0 2 (r.map TNamed.d))

theorem slices_Clone_api_Named_api_Named.ok (k : Nat) : slices_Clone_api_Named_api_Named.C (slices_Clone_api_Named_api_Named k) := by
  intro p0 r hF w0 G0 A1 c2 hI h3
  unfold slices_Clone_api_Named_api_Named at hF
  refine calls_of_wp Try.func74 rfl ?_
  have hE : Env _ 8 [(0, .slice A1 p0.length c2)] := Env.start ⟨[.slice A1 p0.length c2]⟩ 7
  refine c_seq ?_; refine c_reg ?_; refine run tt_ok 1 hE rfl fun a hE => ?_; refine c_end ?_; refine xT ?_; refine c_seq ?_; refine c_seq ?_; refine c_reg ?_; refine run tt_ok 1 hE rfl fun a hE => ?_
  rcases A1 with _ | ad5
  · obtain rfl := (h3).nil0; have hF : some [] = some r := hF; cases hF; refine s_rt hI hE rfl (f_slnil tt_ok rfl rfl rfl rfl) rfl fun a hE => ?_; refine c_end ?_; refine xT ?_; refine c_true hE rfl ?_; refine c_seq ?_
    refine c_reg ?_; refine run tt_ok 1 hE rfl fun a hE => ?_; refine c_end ?_; refine xT ?_; refine c_ret ?_; refine xTr ?_
    refine r_ret (v := _) hE rfl ⟨_, _, _, rfl, hI.nil, rfl, none, 0, rfl, (Sl.nil _ _ _ _ (Nat.zero_le _))⟩
  refine s_rt hI hE rfl (f_slnil tt_ok rfl rfl rfl rfl) rfl fun a hE => ?_; refine c_end ?_; refine xT ?_; refine c_false hE rfl ?_; refine c_skip ?_; refine xT ?_; refine c_seq ?_; refine c_reg ?_
  refine s_bsl ai_67 hI hE rfl rfl rfl rfl rfl fun a w b10 hE hI => ?_; have hR12 : RL G0 2 (([] : List TNamed).map TNamed.d) [] := RL.nil; refine run tt_ok 1 hE rfl fun a hE => ?_; obtain ⟨_, hb13, hF⟩ := bd hF
  refine s_appG (f := TNamed.d) (xs := ([] : List TNamed)) (ys := p0) ai_67 0 hI hE rfl rfl h3 rfl rfl (lim_le hb13) rfl fun a w A14 c15 cs16 hE hR18 hI => ?_; have hR17 := RL.appm hR12 hR18
  refine run tt_ok 1 hE rfl fun a hE => ?_; refine c_end ?_; refine xT ?_; obtain ⟨G19, hg20, hI, h21⟩ := (hI.front 0).giveR (xs := (([] : List TNamed) ++ p0).map TNamed.d) (by simp) hR17; refine c_ret ?_; cases hF
  refine r_ret (v := _) hE rfl ⟨_, _, _, rfl, hI.nil, rfl, A14, c15, rfl, h21⟩

theorem cl_37 : Callable Try.prog 37 := ⟨_, Try.func37, by kernel_rfl, by kernel_rfl⟩

def schema_Catalog_Channels.C (s : (Option Tschema_Catalog) → Option (List TNamed)) : Prop := ∀ (p0 : Option Tschema_Catalog) (r : (List TNamed)), s p0 = some r → ∀ (w0 : World) (G0 : GH) (A1 : Option Addr), Inv w0 G0 [] G0 [] w0 → (Pt G0 A1 103 Tschema_Catalog.d p0) → Calls Try.prog 37 #[.pointer A1] w0 (Ret w0 G0 [] fun G' L' v => L' = [] ∧ ∃ A0 c0, v = .slice A0 r.length c0 ∧ Sl G' A0 c0 2 (r.map TNamed.d))

theorem schema_Catalog_Channels.ok (k : Nat) : schema_Catalog_Channels.C (schema_Catalog_Channels k) := by
  intro p0 r hF w0 G0 A1 hI h2
  unfold schema_Catalog_Channels at hF
  refine calls_of_wp Try.func37 rfl ?_
  have hE : Env _ 10 [(0, .pointer A1)] := Env.start ⟨[.pointer A1]⟩ 9
  refine c_seq ?_; refine c_reg ?_; refine run tt_ok 1 hE rfl fun a hE => ?_; refine c_end ?_; refine xT ?_; refine c_seq ?_; refine c_seq ?_; refine c_reg ?_; refine run tt_ok 1 hE rfl fun a hE => ?_
  refine s_rt hI hE rfl (f_pnil up_63 h2 rfl rfl) rfl fun a hE => ?_; refine c_end ?_; refine xT ?_; refine c_if (b := p0.isNone) hE rfl (fun hb37 => ?_) (fun hb37 => ?_)
  · replace hF := ct hb37 hF; refine c_seq ?_; refine c_reg ?_; refine run tt_ok 1 hE rfl fun a hE => ?_; refine c_end ?_; refine xT ?_; refine c_ret ?_; refine xTr ?_; cases hF
    refine r_ret (v := _) hE rfl ⟨_, _, _, rfl, hI.nil, rfl, none, 0, rfl, (Sl.nil _ _ _ _ (Nat.zero_le _))⟩
  replace hF := cf hb37 hF; refine c_skip ?_; refine xT ?_; refine c_seq ?_; refine c_reg ?_; refine run tt_ok 1 hE rfl fun a hE => ?_; rcases (h2).cases with ⟨hp14, rfl⟩ | ⟨y12, b13, cs, hp14, rfl, hR15, hA16⟩
  · cases op_n hp14 hF
  replace hF := op_s hp14 hF; obtain ⟨A17, A19, c20, A22, A24, c25, A27, c28, rfl, h18, h21, h23, h26, h29⟩ := Tschema_Catalog.inv.1 hR15; refine run tt_ok 2 hE rfl fun a hE => ?_
  refine s_rt hI hE rfl (f_loadG tt_ok hA16 3 rfl rfl rfl rfl) rfl fun a hE => ?_; obtain ⟨y30, hy31, hF⟩ := bd hF
  refine s_call0 cl_74 hI hE rfl rfl ((slices_Clone_api_Named_api_Named.ok k) _ _ hy31 _ _ _ _ hI.pass0 h26) rfl ?_; clear hE hI; rintro a w _ G33 _ ⟨rfl, A34, c35, rfl, h36⟩ hg32 hI hE
  refine run tt_ok 1 hE rfl fun a hE => ?_; refine c_end ?_; refine xT ?_; refine c_ret ?_; cases hF; refine r_ret (v := _) hE rfl ⟨_, _, _, rfl, hI.nil, rfl, A34, c35, rfl, h36⟩

theorem cl_69 : Callable Try.prog 69 := ⟨_, Try.func69, by kernel_rfl, by kernel_rfl⟩

def schema_find.C (s : (List TNamed) → ByteArray → Option (Int × Bool)) : Prop := ∀ (p0 : List TNamed) (p1 : ByteArray) (r : Int × Bool), s p0 p1 = some r → ∀ (w0 : World) (G0 : GH) (A1 : Option Addr) (c2 : Nat), Inv w0 G0 [] G0 [] w0 → (Sl G0 A1 c2 2 (p0.map TNamed.d)) → Calls Try.prog 69 #[.slice A1 p0.length c2, .string p1] w0 (Ret w0 G0 [] fun G' L' v => L' = [] ∧ v = .tuple ⟨[.int .i64 r.1, .bool r.2]⟩)

theorem schema_find.ok (k : Nat) : schema_find.C (schema_find k) := by
  intro p0 p1 r hF w0 G0 A1 c2 hI h3
  unfold schema_find at hF
  refine calls_of_wp Try.func69 rfl ?_
  have hE : Env _ 21 [(0, .slice A1 p0.length c2), (1, .string p1)] := Env.start ⟨[.slice A1 p0.length c2, .string p1]⟩ 19
  refine c_seq ?_; refine c_reg ?_; refine run tt_ok 2 hE rfl fun a hE => ?_; refine c_end ?_; refine xT ?_; refine c_seq ?_; refine c_seq ?_; refine c_reg ?_; refine run tt_ok 3 hE rfl fun a hE => ?_; refine c_end ?_
  refine xT ?_; obtain ⟨o20, hO21, hK22⟩ := bd hF; clear hF; refine c_cut (fun a' w' => ∃ (s24 : Unit) (G25 : GH), o20 = .go s24 ∧ G0.le G25 ∧ Env a' 21 [] ∧ Inv w0 G0 [] G25 [] w') ?_ ?_; rotate_left
  · clear hE hI hO21; rintro a w ⟨s24, G25, rfl, hg26, hE, hI⟩; have hF := lrk_go hK22; clear hK22; refine xT ?_; refine c_seq ?_; refine c_reg ?_; refine run tt_ok 2 hE rfl fun a hE => ?_; refine c_end ?_; refine xT ?_
    refine c_ret ?_; cases hF; refine r_ret (v := _) hE rfl ⟨_, _, _, rfl, hI.nil, rfl, rfl⟩
  refine c_block ?_
  refine wp_loop_ghost (fun n' a' w' => ∃ (i29 : Nat) (rest31 : List TNamed) (s19 : Unit) (G18 : GH), n' = rest31.length ∧ i29 ≤ p0.length ∧ p0.drop i29 = rest31 ∧ forL (schema_find.b0 k p1) i29 rest31 s19 = some o20 ∧ G0.le G18 ∧ Env a' 21 [(10, .int .i64 (i29 : Int)), (1, .string p1), (8, .slice A1 p0.length c2), (9, .int .i64 (p0.length : Int))] ∧ Inv w0 G0 [] G18 [] w') _ ⟨0, _, _, G0, rfl, Nat.zero_le _, rfl, hO21, (GH.le.refl _), hE.keep ⟨rfl, rfl, rfl, rfl, trivial⟩, hI⟩ ?_
  clear hE hI hO21; rintro m28 a w ⟨i29, rest31, s19, G18, rfl, hi35, hd32, hO21, hg23, hE, hI⟩; rcases rest31 with _ | ⟨x30, rest31⟩
  · obtain rfl := forL_nil hO21; have hlt34 := drop_nil hd32 hi35; clear hd32; refine c_seq ?_; refine c_reg ?_; refine run tt_ok 1 hE rfl fun a hE => ?_; refine c_end ?_; refine xT ?_; refine c_seq ?_
    have hE := hE.tr (t := 11) rfl (decide_eq_false (by omega)); refine c_false hE rfl ?_; refine c_exit ?_; refine xTe ?_; refine xTe ?_; refine xBh ?_; refine xT ?_; exact ⟨_, G18, rfl, hg23, hE.keep trivial, hI⟩
  obtain ⟨stp27, hF, hO21⟩ := forL_step hO21; obtain ⟨hx33, hd32, hlt34⟩ := drop_cons hd32; unfold schema_find.b0 at hF; refine c_seq ?_; refine c_reg ?_; refine run tt_ok 1 hE rfl fun a hE => ?_; refine c_end ?_
  refine xT ?_; refine c_seq ?_; have hE := hE.tr (t := 11) rfl (decide_eq_true (by omega)); refine c_true hE rfl ?_; refine c_skip ?_; refine xT ?_; refine c_seq ?_; refine c_block ?_; refine c_seq ?_; refine c_reg ?_
  obtain ⟨b37, o38, cs, hb41, hR40, hA39⟩ := sl_at (h3.mono hg23) (Int.natCast_nonneg _) (natIdx hx33); obtain rfl := TNamed.inv.1 hR40; refine s_rt hI hE rfl (f_idx tt_ok hb41 rfl rfl rfl) rfl fun a hE => ?_
  refine s_rt hI hE rfl (f_loadG tt_ok hA39 0 rfl rfl rfl rfl) rfl fun a hE => ?_; refine s_alloc hI hE rfl z_120 rfl rfl fun a w b42 hE hI => ?_
  refine s_storeB tt_ok 0 hI hE rfl rfl rfl rfl rfl rfl rfl rfl rfl rfl fun a w hE hI => ?_; refine c_end ?_; refine xT ?_; refine c_seq ?_; refine c_reg ?_; refine run tt_ok 1 hE rfl fun a hE => ?_
  refine s_rt hI hE rfl (f_loadB tt_ok 0 rfl rfl rfl rfl) rfl fun a hE => ?_; refine run tt_ok 2 hE rfl fun a hE => ?_; refine c_end ?_; refine xT ?_
  refine c_if (b := decide (x30.Name = p1)) hE rfl (fun hb45 => ?_) (fun hb45 => ?_); rotate_left
  · replace hF := cf hb45 hF; refine c_skip ?_; refine xB ?_; refine xT ?_; refine c_reg ?_; refine run tt_ok 2 hE rfl fun a hE => ?_; refine c_end ?_; refine xT ?_; cases hF
    have hE := hE.setI (t := 10) rfl (w64_succ hlt34 (len_le h3)); exact ⟨rest31.length, Nat.lt_succ_self _, i29 + 1, rest31, _, G18, rfl, hlt34, hd32, hO21, hg23, hE.keep ⟨rfl, rfl, rfl, rfl, trivial⟩, (hI.dropN 1 rfl)⟩
  replace hF := ct hb45 hF; refine c_seq ?_; refine c_reg ?_; refine run tt_ok 1 hE rfl fun a hE => ?_; refine s_rt hI hE rfl (f_loadB tt_ok 0 rfl rfl rfl rfl) rfl fun a hE => ?_; refine run tt_ok 2 hE rfl fun a hE => ?_
  refine c_end ?_; refine xT ?_; refine c_ret ?_; refine xBr ?_; refine xTr ?_; refine xTr ?_; refine xBr ?_; refine xTr ?_; refine xTr ?_; cases hF; obtain rfl := nxt_ret hO21; have hF := lrk_ret hK22; cases hF
  refine r_ret (v := _) hE rfl ⟨_, _, _, rfl, hI.nil, rfl, rfl⟩

theorem cl_33 : Callable Try.prog 33 := ⟨_, Try.func33, by kernel_rfl, by kernel_rfl⟩

def schema_Catalog_Channel.C (s : (Option Tschema_Catalog) → ByteArray → Option (Int × Bool)) : Prop := ∀ (p0 : Option Tschema_Catalog) (p1 : ByteArray) (r : Int × Bool), s p0 p1 = some r → ∀ (w0 : World) (G0 : GH) (A1 : Option Addr), Inv w0 G0 [] G0 [] w0 → (Pt G0 A1 103 Tschema_Catalog.d p0) → Calls Try.prog 33 #[.pointer A1, .string p1] w0 (Ret w0 G0 [] fun G' L' v => L' = [] ∧ v = .tuple ⟨[.int .i64 r.1, .bool r.2]⟩)

theorem schema_Catalog_Channel.ok (k : Nat) : schema_Catalog_Channel.C (schema_Catalog_Channel k) := by
  intro p0 p1 r hF w0 G0 A1 hI h2
  unfold schema_Catalog_Channel at hF
  refine calls_of_wp Try.func33 rfl ?_
  have hE : Env _ 12 [(0, .pointer A1), (1, .string p1)] := Env.start ⟨[.pointer A1, .string p1]⟩ 10
  refine c_seq ?_; refine c_reg ?_; refine run tt_ok 2 hE rfl fun a hE => ?_; refine c_end ?_; refine xT ?_; refine c_seq ?_; refine c_reg ?_; refine run tt_ok 1 hE rfl fun a hE => ?_; obtain ⟨y9, hy10, hF⟩ := bd hF
  refine s_call0 cl_37 hI hE rfl rfl ((schema_Catalog_Channels.ok k) _ _ hy10 _ _ _ hI.pass0 h2) rfl ?_; clear hE hI; rintro a w _ G12 _ ⟨rfl, A13, c14, rfl, h15⟩ hg11 hI hE; refine run tt_ok 1 hE rfl fun a hE => ?_
  obtain ⟨y16, hy17, hF⟩ := bd hF; refine s_call0 cl_69 hI hE rfl rfl ((schema_find.ok k) _ _ _ hy17 _ _ _ _ hI.pass0 h15) rfl ?_; clear hE hI; rintro a w _ G19 _ ⟨rfl, rfl⟩ hg18 hI hE
  refine run tt_ok 4 hE rfl fun a hE => ?_; refine c_end ?_; refine xT ?_; refine c_ret ?_; cases hF; refine r_ret (v := _) hE rfl ⟨_, _, _, rfl, hI.nil, rfl, rfl⟩

theorem cl_38 : Callable Try.prog 38 := ⟨_, Try.func38, by kernel_rfl, by kernel_rfl⟩

def schema_Catalog_Principals.C (s : (Option Tschema_Catalog) → Option (List TNamed)) : Prop := ∀ (p0 : Option Tschema_Catalog) (r : (List TNamed)), s p0 = some r → ∀ (w0 : World) (G0 : GH) (A1 : Option Addr), Inv w0 G0 [] G0 [] w0 → (Pt G0 A1 103 Tschema_Catalog.d p0) → Calls Try.prog 38 #[.pointer A1] w0 (Ret w0 G0 [] fun G' L' v => L' = [] ∧ ∃ A0 c0, v = .slice A0 r.length c0 ∧ Sl G' A0 c0 2 (r.map TNamed.d))

theorem schema_Catalog_Principals.ok (k : Nat) : schema_Catalog_Principals.C (schema_Catalog_Principals k) := by
  intro p0 r hF w0 G0 A1 hI h2
  unfold schema_Catalog_Principals at hF
  refine calls_of_wp Try.func38 rfl ?_
  have hE : Env _ 10 [(0, .pointer A1)] := Env.start ⟨[.pointer A1]⟩ 9
  refine c_seq ?_; refine c_reg ?_; refine run tt_ok 1 hE rfl fun a hE => ?_; refine c_end ?_; refine xT ?_; refine c_seq ?_; refine c_seq ?_; refine c_reg ?_; refine run tt_ok 1 hE rfl fun a hE => ?_
  refine s_rt hI hE rfl (f_pnil up_63 h2 rfl rfl) rfl fun a hE => ?_; refine c_end ?_; refine xT ?_; refine c_if (b := p0.isNone) hE rfl (fun hb37 => ?_) (fun hb37 => ?_)
  · replace hF := ct hb37 hF; refine c_seq ?_; refine c_reg ?_; refine run tt_ok 1 hE rfl fun a hE => ?_; refine c_end ?_; refine xT ?_; refine c_ret ?_; refine xTr ?_; cases hF
    refine r_ret (v := _) hE rfl ⟨_, _, _, rfl, hI.nil, rfl, none, 0, rfl, (Sl.nil _ _ _ _ (Nat.zero_le _))⟩
  replace hF := cf hb37 hF; refine c_skip ?_; refine xT ?_; refine c_seq ?_; refine c_reg ?_; refine run tt_ok 1 hE rfl fun a hE => ?_; rcases (h2).cases with ⟨hp14, rfl⟩ | ⟨y12, b13, cs, hp14, rfl, hR15, hA16⟩
  · cases op_n hp14 hF
  replace hF := op_s hp14 hF; obtain ⟨A17, A19, c20, A22, A24, c25, A27, c28, rfl, h18, h21, h23, h26, h29⟩ := Tschema_Catalog.inv.1 hR15; refine run tt_ok 2 hE rfl fun a hE => ?_
  refine s_rt hI hE rfl (f_loadG tt_ok hA16 4 rfl rfl rfl rfl) rfl fun a hE => ?_; obtain ⟨y30, hy31, hF⟩ := bd hF
  refine s_call0 cl_74 hI hE rfl rfl ((slices_Clone_api_Named_api_Named.ok k) _ _ hy31 _ _ _ _ hI.pass0 h29) rfl ?_; clear hE hI; rintro a w _ G33 _ ⟨rfl, A34, c35, rfl, h36⟩ hg32 hI hE
  refine run tt_ok 1 hE rfl fun a hE => ?_; refine c_end ?_; refine xT ?_; refine c_ret ?_; cases hF; refine r_ret (v := _) hE rfl ⟨_, _, _, rfl, hI.nil, rfl, A34, c35, rfl, h36⟩

theorem cl_34 : Callable Try.prog 34 := ⟨_, Try.func34, by kernel_rfl, by kernel_rfl⟩

def schema_Catalog_Principal.C (s : (Option Tschema_Catalog) → ByteArray → Option (Int × Bool)) : Prop := ∀ (p0 : Option Tschema_Catalog) (p1 : ByteArray) (r : Int × Bool), s p0 p1 = some r → ∀ (w0 : World) (G0 : GH) (A1 : Option Addr), Inv w0 G0 [] G0 [] w0 → (Pt G0 A1 103 Tschema_Catalog.d p0) → Calls Try.prog 34 #[.pointer A1, .string p1] w0 (Ret w0 G0 [] fun G' L' v => L' = [] ∧ v = .tuple ⟨[.int .i64 r.1, .bool r.2]⟩)

theorem schema_Catalog_Principal.ok (k : Nat) : schema_Catalog_Principal.C (schema_Catalog_Principal k) := by
  intro p0 p1 r hF w0 G0 A1 hI h2
  unfold schema_Catalog_Principal at hF
  refine calls_of_wp Try.func34 rfl ?_
  have hE : Env _ 12 [(0, .pointer A1), (1, .string p1)] := Env.start ⟨[.pointer A1, .string p1]⟩ 10
  refine c_seq ?_; refine c_reg ?_; refine run tt_ok 2 hE rfl fun a hE => ?_; refine c_end ?_; refine xT ?_; refine c_seq ?_; refine c_reg ?_; refine run tt_ok 1 hE rfl fun a hE => ?_; obtain ⟨y9, hy10, hF⟩ := bd hF
  refine s_call0 cl_38 hI hE rfl rfl ((schema_Catalog_Principals.ok k) _ _ hy10 _ _ _ hI.pass0 h2) rfl ?_; clear hE hI; rintro a w _ G12 _ ⟨rfl, A13, c14, rfl, h15⟩ hg11 hI hE; refine run tt_ok 1 hE rfl fun a hE => ?_
  obtain ⟨y16, hy17, hF⟩ := bd hF; refine s_call0 cl_69 hI hE rfl rfl ((schema_find.ok k) _ _ _ hy17 _ _ _ _ hI.pass0 h15) rfl ?_; clear hE hI; rintro a w _ G19 _ ⟨rfl, rfl⟩ hg18 hI hE
  refine run tt_ok 4 hE rfl fun a hE => ?_; refine c_end ?_; refine xT ?_; refine c_ret ?_; cases hF; refine r_ret (v := _) hE rfl ⟨_, _, _, rfl, hI.nil, rfl, rfl⟩

theorem cl_35 : Callable Try.prog 35 := ⟨_, Try.func35, by kernel_rfl, by kernel_rfl⟩

def schema_Catalog_Lattice.C (s : (Option Tschema_Catalog) → Option (Option Tlattice_Lattice)) : Prop := ∀ (p0 : Option Tschema_Catalog) (r : (Option Tlattice_Lattice)), s p0 = some r → ∀ (w0 : World) (G0 : GH) (A1 : Option Addr), Inv w0 G0 [] G0 [] w0 → (Pt G0 A1 103 Tschema_Catalog.d p0) → Calls Try.prog 35 #[.pointer A1] w0 (Ret w0 G0 [] fun G' L' v => L' = [] ∧ ∃ A0, v = .pointer A0 ∧ Pt G' A0 78 Tlattice_Lattice.d r)

theorem schema_Catalog_Lattice.ok (k : Nat) : schema_Catalog_Lattice.C (schema_Catalog_Lattice k) := by
  intro p0 r hF w0 G0 A1 hI h2
  unfold schema_Catalog_Lattice at hF
  refine calls_of_wp Try.func35 rfl ?_
  have hE : Env _ 9 [(0, .pointer A1)] := Env.start ⟨[.pointer A1]⟩ 8
  refine c_seq ?_; refine c_reg ?_; refine run tt_ok 1 hE rfl fun a hE => ?_; refine c_end ?_; refine xT ?_; refine c_seq ?_; refine c_seq ?_; refine c_reg ?_; refine run tt_ok 1 hE rfl fun a hE => ?_
  refine s_rt hI hE rfl (f_pnil up_63 h2 rfl rfl) rfl fun a hE => ?_; refine c_end ?_; refine xT ?_; refine c_if (b := p0.isNone) hE rfl (fun hb22 => ?_) (fun hb22 => ?_)
  · replace hF := ct hb22 hF; refine c_seq ?_; refine c_reg ?_; refine run tt_ok 1 hE rfl fun a hE => ?_; refine c_end ?_; refine xT ?_; refine c_ret ?_; refine xTr ?_; cases hF
    refine r_ret (v := _) hE rfl ⟨_, _, _, rfl, hI.nil, rfl, none, rfl, Pt.nil⟩
  replace hF := cf hb22 hF; refine c_skip ?_; refine xT ?_; refine c_seq ?_; refine c_reg ?_; refine run tt_ok 1 hE rfl fun a hE => ?_; rcases (h2).cases with ⟨hp6, rfl⟩ | ⟨y4, b5, cs, hp6, rfl, hR7, hA8⟩
  · cases op_n hp6 hF
  replace hF := op_s hp6 hF; obtain ⟨A9, A11, c12, A14, A16, c17, A19, c20, rfl, h10, h13, h15, h18, h21⟩ := Tschema_Catalog.inv.1 hR7; refine run tt_ok 2 hE rfl fun a hE => ?_
  refine s_rt hI hE rfl (f_loadG tt_ok hA8 0 rfl rfl rfl rfl) rfl fun a hE => ?_; refine run tt_ok 1 hE rfl fun a hE => ?_; refine c_end ?_; refine xT ?_; refine c_ret ?_; cases hF
  refine r_ret (v := _) hE rfl ⟨_, _, _, rfl, hI.nil, rfl, A9, rfl, h10⟩

theorem cl_70 : Callable Try.prog 70 := ⟨_, Try.func70, by kernel_rfl, by kernel_rfl⟩

def slices_Clone_api_Relation_api_Relation.C (s : (List TRelation) → Option (List TRelation)) : Prop := ∀ (p0 : List TRelation) (r : (List TRelation)), s p0 = some r → ∀ (w0 : World) (G0 : GH) (A1 : Option Addr) (c2 : Nat), Inv w0 G0 [] G0 [] w0 → (Sl G0 A1 c2 6 (p0.map TRelation.d)) → Calls Try.prog 70 #[.slice A1 p0.length c2] w0 (Ret w0 G0 [] fun G' L' v => ∃ A0 c0 e0, L' = [.row (.slice A0 r.length c0) 109 6 r.length e0] ∧ v = .slice A0 r.length c0 ∧ RL G' 6 (r.map TRelation.d) e0)

theorem slices_Clone_api_Relation_api_Relation.ok (k : Nat) : slices_Clone_api_Relation_api_Relation.C (slices_Clone_api_Relation_api_Relation k) := by
  intro p0 r hF w0 G0 A1 c2 hI h3
  unfold slices_Clone_api_Relation_api_Relation at hF
  refine calls_of_wp Try.func70 rfl ?_
  have hE : Env _ 8 [(0, .slice A1 p0.length c2)] := Env.start ⟨[.slice A1 p0.length c2]⟩ 7
  refine c_seq ?_; refine c_reg ?_; refine run tt_ok 1 hE rfl fun a hE => ?_; refine c_end ?_; refine xT ?_; refine c_seq ?_; refine c_seq ?_; refine c_reg ?_; refine run tt_ok 1 hE rfl fun a hE => ?_
  rcases A1 with _ | ad5
  · obtain rfl := (h3).nil0; have hF : some [] = some r := hF; cases hF; refine s_rt hI hE rfl (f_slnil tt_ok rfl rfl rfl rfl) rfl fun a hE => ?_; refine c_end ?_; refine xT ?_; refine c_true hE rfl ?_; refine c_seq ?_
    refine c_reg ?_; refine run tt_ok 1 hE rfl fun a hE => ?_; refine c_end ?_; refine xT ?_; have hI := hI.nilrow 109 6; have hR20 : RL G0 6 (([] : List TRelation).map TRelation.d) [] := RL.nil; refine c_ret ?_
    refine xTr ?_; refine r_ret (v := _) hE rfl ⟨_, _, _, rfl, hI, none, 0, [], rfl, rfl, hR20⟩
  refine s_rt hI hE rfl (f_slnil tt_ok rfl rfl rfl rfl) rfl fun a hE => ?_; refine c_end ?_; refine xT ?_; refine c_false hE rfl ?_; refine c_skip ?_; refine xT ?_; refine c_seq ?_; refine c_reg ?_
  refine s_bsl ai_65 hI hE rfl rfl rfl rfl rfl fun a w b10 hE hI => ?_; have hR12 : RL G0 6 (([] : List TRelation).map TRelation.d) [] := RL.nil; refine run tt_ok 1 hE rfl fun a hE => ?_; obtain ⟨_, hb13, hF⟩ := bd hF
  refine s_appG (f := TRelation.d) (xs := ([] : List TRelation)) (ys := p0) ai_65 0 hI hE rfl rfl h3 rfl rfl (lim_le hb13) rfl fun a w A14 c15 cs16 hE hR18 hI => ?_; have hR17 := RL.appm hR12 hR18
  refine run tt_ok 1 hE rfl fun a hE => ?_; refine c_end ?_; refine xT ?_; refine c_ret ?_; cases hF; refine r_ret (v := _) hE rfl ⟨_, _, _, rfl, hI, A14, c15, ([] ++ cs16), rfl, rfl, hR17⟩

theorem cl_71 : Callable Try.prog 71 := ⟨_, Try.func71, by kernel_rfl, by kernel_rfl⟩

def slices_Clone_api_Field_api_Field.C (s : (List TField) → Option (List TField)) : Prop := ∀ (p0 : List TField) (r : (List TField)), s p0 = some r → ∀ (w0 : World) (G0 : GH) (A1 : Option Addr) (c2 : Nat), Inv w0 G0 [] G0 [] w0 → (Sl G0 A1 c2 4 (p0.map TField.d)) → Calls Try.prog 71 #[.slice A1 p0.length c2] w0 (Ret w0 G0 [] fun G' L' v => L' = [] ∧ ∃ A0 c0, v = .slice A0 r.length c0 ∧ Sl G' A0 c0 4 (r.map TField.d))

theorem slices_Clone_api_Field_api_Field.ok (k : Nat) : slices_Clone_api_Field_api_Field.C (slices_Clone_api_Field_api_Field k) := by
  intro p0 r hF w0 G0 A1 c2 hI h3
  unfold slices_Clone_api_Field_api_Field at hF
  refine calls_of_wp Try.func71 rfl ?_
  have hE : Env _ 8 [(0, .slice A1 p0.length c2)] := Env.start ⟨[.slice A1 p0.length c2]⟩ 7
  refine c_seq ?_; refine c_reg ?_; refine run tt_ok 1 hE rfl fun a hE => ?_; refine c_end ?_; refine xT ?_; refine c_seq ?_; refine c_seq ?_; refine c_reg ?_; refine run tt_ok 1 hE rfl fun a hE => ?_
  rcases A1 with _ | ad5
  · obtain rfl := (h3).nil0; have hF : some [] = some r := hF; cases hF; refine s_rt hI hE rfl (f_slnil tt_ok rfl rfl rfl rfl) rfl fun a hE => ?_; refine c_end ?_; refine xT ?_; refine c_true hE rfl ?_; refine c_seq ?_
    refine c_reg ?_; refine run tt_ok 1 hE rfl fun a hE => ?_; refine c_end ?_; refine xT ?_; refine c_ret ?_; refine xTr ?_
    refine r_ret (v := _) hE rfl ⟨_, _, _, rfl, hI.nil, rfl, none, 0, rfl, (Sl.nil _ _ _ _ (Nat.zero_le _))⟩
  refine s_rt hI hE rfl (f_slnil tt_ok rfl rfl rfl rfl) rfl fun a hE => ?_; refine c_end ?_; refine xT ?_; refine c_false hE rfl ?_; refine c_skip ?_; refine xT ?_; refine c_seq ?_; refine c_reg ?_
  refine s_bsl ai_106 hI hE rfl rfl rfl rfl rfl fun a w b10 hE hI => ?_; have hR12 : RL G0 4 (([] : List TField).map TField.d) [] := RL.nil; refine run tt_ok 1 hE rfl fun a hE => ?_; obtain ⟨_, hb13, hF⟩ := bd hF
  refine s_appG (f := TField.d) (xs := ([] : List TField)) (ys := p0) ai_106 0 hI hE rfl rfl h3 rfl rfl (lim_le hb13) rfl fun a w A14 c15 cs16 hE hR18 hI => ?_; have hR17 := RL.appm hR12 hR18
  refine run tt_ok 1 hE rfl fun a hE => ?_; refine c_end ?_; refine xT ?_; obtain ⟨G19, hg20, hI, h21⟩ := (hI.front 0).giveR (xs := (([] : List TField) ++ p0).map TField.d) (by simp) hR17; refine c_ret ?_; cases hF
  refine r_ret (v := _) hE rfl ⟨_, _, _, rfl, hI.nil, rfl, A14, c15, rfl, h21⟩

theorem cl_72 : Callable Try.prog 72 := ⟨_, Try.func72, by kernel_rfl, by kernel_rfl⟩

def slices_Clone_int_int.C (s : (List Int) → Option (List Int)) : Prop := ∀ (p0 : List Int) (r : (List Int)), s p0 = some r → ∀ (w0 : World) (G0 : GH) (A1 : Option Addr) (c2 : Nat), Inv w0 G0 [] G0 [] w0 → (Sl G0 A1 c2 1 (p0.map (D.int .i64))) → Calls Try.prog 72 #[.slice A1 p0.length c2] w0 (Ret w0 G0 [] fun G' L' v => L' = [] ∧ ∃ A0 c0, v = .slice A0 r.length c0 ∧ Sl G' A0 c0 1 (r.map (D.int .i64)))

theorem slices_Clone_int_int.ok (k : Nat) : slices_Clone_int_int.C (slices_Clone_int_int k) := by
  intro p0 r hF w0 G0 A1 c2 hI h3
  unfold slices_Clone_int_int at hF
  refine calls_of_wp Try.func72 rfl ?_
  have hE : Env _ 8 [(0, .slice A1 p0.length c2)] := Env.start ⟨[.slice A1 p0.length c2]⟩ 7
  refine c_seq ?_; refine c_reg ?_; refine run tt_ok 1 hE rfl fun a hE => ?_; refine c_end ?_; refine xT ?_; refine c_seq ?_; refine c_seq ?_; refine c_reg ?_; refine run tt_ok 1 hE rfl fun a hE => ?_
  rcases A1 with _ | ad5
  · obtain rfl := (h3).nil0; have hF : some [] = some r := hF; cases hF; refine s_rt hI hE rfl (f_slnil tt_ok rfl rfl rfl rfl) rfl fun a hE => ?_; refine c_end ?_; refine xT ?_; refine c_true hE rfl ?_; refine c_seq ?_
    refine c_reg ?_; refine run tt_ok 1 hE rfl fun a hE => ?_; refine c_end ?_; refine xT ?_; refine c_ret ?_; refine xTr ?_
    refine r_ret (v := _) hE rfl ⟨_, _, _, rfl, hI.nil, rfl, none, 0, rfl, (Sl.nil _ _ _ _ (Nat.zero_le _))⟩
  refine s_rt hI hE rfl (f_slnil tt_ok rfl rfl rfl rfl) rfl fun a hE => ?_; refine c_end ?_; refine xT ?_; refine c_false hE rfl ?_; refine c_skip ?_; refine xT ?_; refine c_seq ?_; refine c_reg ?_
  refine s_bsl ai_45 hI hE rfl rfl rfl rfl rfl fun a w b10 hE hI => ?_; have hR12 : RL G0 1 (([] : List Int).map (D.int .i64)) [] := RL.nil; refine run tt_ok 1 hE rfl fun a hE => ?_; obtain ⟨_, hb13, hF⟩ := bd hF
  refine s_appG (f := (D.int .i64)) (xs := ([] : List Int)) (ys := p0) ai_45 0 hI hE rfl rfl h3 rfl rfl (lim_le hb13) rfl fun a w A14 c15 cs16 hE hR18 hI => ?_; have hR17 := RL.appm hR12 hR18
  refine run tt_ok 1 hE rfl fun a hE => ?_; refine c_end ?_; refine xT ?_; obtain ⟨G19, hg20, hI, h21⟩ := (hI.front 0).giveR (xs := (([] : List Int) ++ p0).map (D.int .i64)) (by simp) hR17; refine c_ret ?_; cases hF
  refine r_ret (v := _) hE rfl ⟨_, _, _, rfl, hI.nil, rfl, A14, c15, rfl, h21⟩

theorem cl_73 : Callable Try.prog 73 := ⟨_, Try.func73, by kernel_rfl, by kernel_rfl⟩

def slices_Clone_api_Expr_api_Expr.C (s : (List TExpr) → Option (List TExpr)) : Prop := ∀ (p0 : List TExpr) (r : (List TExpr)), s p0 = some r → ∀ (w0 : World) (G0 : GH) (A1 : Option Addr) (c2 : Nat), Inv w0 G0 [] G0 [] w0 → (Sl G0 A1 c2 6 (p0.map TExpr.d)) → Calls Try.prog 73 #[.slice A1 p0.length c2] w0 (Ret w0 G0 [] fun G' L' v => L' = [] ∧ ∃ A0 c0, v = .slice A0 r.length c0 ∧ Sl G' A0 c0 6 (r.map TExpr.d))

theorem slices_Clone_api_Expr_api_Expr.ok (k : Nat) : slices_Clone_api_Expr_api_Expr.C (slices_Clone_api_Expr_api_Expr k) := by
  intro p0 r hF w0 G0 A1 c2 hI h3
  unfold slices_Clone_api_Expr_api_Expr at hF
  refine calls_of_wp Try.func73 rfl ?_
  have hE : Env _ 8 [(0, .slice A1 p0.length c2)] := Env.start ⟨[.slice A1 p0.length c2]⟩ 7
  refine c_seq ?_; refine c_reg ?_; refine run tt_ok 1 hE rfl fun a hE => ?_; refine c_end ?_; refine xT ?_; refine c_seq ?_; refine c_seq ?_; refine c_reg ?_; refine run tt_ok 1 hE rfl fun a hE => ?_
  rcases A1 with _ | ad5
  · obtain rfl := (h3).nil0; have hF : some [] = some r := hF; cases hF; refine s_rt hI hE rfl (f_slnil tt_ok rfl rfl rfl rfl) rfl fun a hE => ?_; refine c_end ?_; refine xT ?_; refine c_true hE rfl ?_; refine c_seq ?_
    refine c_reg ?_; refine run tt_ok 1 hE rfl fun a hE => ?_; refine c_end ?_; refine xT ?_; refine c_ret ?_; refine xTr ?_
    refine r_ret (v := _) hE rfl ⟨_, _, _, rfl, hI.nil, rfl, none, 0, rfl, (Sl.nil _ _ _ _ (Nat.zero_le _))⟩
  refine s_rt hI hE rfl (f_slnil tt_ok rfl rfl rfl rfl) rfl fun a hE => ?_; refine c_end ?_; refine xT ?_; refine c_false hE rfl ?_; refine c_skip ?_; refine xT ?_; refine c_seq ?_; refine c_reg ?_
  refine s_bsl ai_107 hI hE rfl rfl rfl rfl rfl fun a w b10 hE hI => ?_; have hR12 : RL G0 6 (([] : List TExpr).map TExpr.d) [] := RL.nil; refine run tt_ok 1 hE rfl fun a hE => ?_; obtain ⟨_, hb13, hF⟩ := bd hF
  refine s_appG (f := TExpr.d) (xs := ([] : List TExpr)) (ys := p0) ai_107 0 hI hE rfl rfl h3 rfl rfl (lim_le hb13) rfl fun a w A14 c15 cs16 hE hR18 hI => ?_; have hR17 := RL.appm hR12 hR18
  refine run tt_ok 1 hE rfl fun a hE => ?_; refine c_end ?_; refine xT ?_; obtain ⟨G19, hg20, hI, h21⟩ := (hI.front 0).giveR (xs := (([] : List TExpr) ++ p0).map TExpr.d) (by simp) hR17; refine c_ret ?_; cases hF
  refine r_ret (v := _) hE rfl ⟨_, _, _, rfl, hI.nil, rfl, A14, c15, rfl, h21⟩

theorem cl_36 : Callable Try.prog 36 := ⟨_, Try.func36, by kernel_rfl, by kernel_rfl⟩

def schema_Catalog_Tables.C (s : (Option Tschema_Catalog) → Option (List TRelation)) : Prop := ∀ (p0 : Option Tschema_Catalog) (r : (List TRelation)), s p0 = some r → ∀ (w0 : World) (G0 : GH) (A1 : Option Addr), Inv w0 G0 [] G0 [] w0 → (Pt G0 A1 103 Tschema_Catalog.d p0) → Calls Try.prog 36 #[.pointer A1] w0 (Ret w0 G0 [] fun G' L' v => L' = [] ∧ ∃ A0 c0, v = .slice A0 r.length c0 ∧ Sl G' A0 c0 6 (r.map TRelation.d))

theorem schema_Catalog_Tables.ok (k : Nat) : schema_Catalog_Tables.C (schema_Catalog_Tables k) := by
  intro p0 r hF w0 G0 A1 hI h2
  unfold schema_Catalog_Tables at hF
  refine calls_of_wp Try.func36 rfl ?_
  have hE : Env _ 43 [(0, .pointer A1)] := Env.start ⟨[.pointer A1]⟩ 42
  refine c_seq ?_; refine c_reg ?_; refine run tt_ok 1 hE rfl fun a hE => ?_; refine c_end ?_; refine xT ?_; refine c_seq ?_; refine c_seq ?_; refine c_reg ?_; refine run tt_ok 1 hE rfl fun a hE => ?_
  refine s_rt hI hE rfl (f_pnil up_63 h2 rfl rfl) rfl fun a hE => ?_; refine c_end ?_; refine xT ?_; refine c_if (b := p0.isNone) hE rfl (fun hb680 => ?_) (fun hb680 => ?_)
  · replace hF := ct hb680 hF; refine c_seq ?_; refine c_reg ?_; refine run tt_ok 1 hE rfl fun a hE => ?_; refine c_end ?_; refine xT ?_; refine c_ret ?_; refine xTr ?_; cases hF
    refine r_ret (v := _) hE rfl ⟨_, _, _, rfl, hI.nil, rfl, none, 0, rfl, (Sl.nil _ _ _ _ (Nat.zero_le _))⟩
  replace hF := cf hb680 hF; refine c_skip ?_; refine xT ?_; refine c_seq ?_; refine c_reg ?_; refine run tt_ok 1 hE rfl fun a hE => ?_; rcases (h2).cases with ⟨hp14, rfl⟩ | ⟨y12, b13, cs, hp14, rfl, hR15, hA16⟩
  · cases op_n hp14 hF
  replace hF := op_s hp14 hF; obtain ⟨A17, A19, c20, A22, A24, c25, A27, c28, rfl, h18, h21, h23, h26, h29⟩ := Tschema_Catalog.inv.1 hR15; refine run tt_ok 2 hE rfl fun a hE => ?_
  refine s_rt hI hE rfl (f_loadG tt_ok hA16 1 rfl rfl rfl rfl) rfl fun a hE => ?_; obtain ⟨y30, hy31, hF⟩ := bd hF
  refine s_call0 cl_70 hI hE rfl rfl ((slices_Clone_api_Relation_api_Relation.ok k) _ _ hy31 _ _ _ _ hI.pass0 h21) rfl ?_; clear hE hI; rintro a w _ G33 _ ⟨A36, c37, cs38, rfl, rfl, hR39⟩ hg32 hI hE
  refine run tt_ok 1 hE rfl fun a hE => ?_; refine c_end ?_; refine xT ?_; refine c_seq ?_; refine c_seq ?_; refine c_reg ?_; refine run tt_ok 3 hE rfl fun a hE => ?_; refine c_end ?_; refine xT ?_
  have hl484 := hI.rle (xs := y30) 0 rfl; obtain ⟨o460, hO461, hK462⟩ := bd hF; clear hF
  refine c_cut (fun a' w' => ∃ (s464 : (List TRelation)) (G465 : GH) (A467 : Option Addr) (c468 : Nat) (cs469 : List Value), o460 = .go s464 ∧ G33.le G465 ∧ Env a' 43 [(3, .slice A467 s464.length c468)] ∧ Inv w0 G0 [] G465 [.row (.slice A467 s464.length c468) 109 6 s464.length cs469] w' ∧ RL G465 6 (s464.map TRelation.d) cs469) ?_ ?_
  rotate_left
  · clear hE hI hO461; rintro a w ⟨s464, G465, A467, c468, cs469, rfl, hg471, hE, hI, hR470⟩; have hF := lrk_go hK462; clear hK462; refine xT ?_; refine c_seq ?_; refine c_reg ?_; refine run tt_ok 2 hE rfl fun a hE => ?_
    refine c_end ?_; refine xT ?_; obtain ⟨G472, hg473, hI, h474⟩ := (hI.front 0).giveR (xs := s464.map TRelation.d) (by simp) hR470; refine c_ret ?_; cases hF
    refine r_ret (v := _) hE rfl ⟨_, _, _, rfl, hI.nil, rfl, A467, c468, rfl, h474⟩
  refine c_block ?_
  refine wp_loop_ghost (fun n' a' w' => ∃ (i477 : Nat) (rest479 : List TRelation) (s459 : (List TRelation)) (G453 : GH) (A455 : Option Addr) (c456 : Nat) (cs457 : List Value), n' = rest479.length ∧ i477 ≤ y30.length ∧ y30.drop i477 = rest479 ∧ forL (schema_Catalog_Tables.b0 k) i477 rest479 s459 = some o460 ∧ G33.le G453 ∧ Env a' 43 [(15, .int .i64 (i477 : Int)), (3, .slice A455 s459.length c456), (13, .slice A455 s459.length c456), (14, .int .i64 (y30.length : Int))] ∧ Inv w0 G0 [] G453 [.row (.slice A455 s459.length c456) 109 6 s459.length cs457] w' ∧ RL G453 6 (s459.map TRelation.d) cs457) _ ⟨0, _, _, G33, A36, c37, cs38, rfl, Nat.zero_le _, rfl, hO461, (GH.le.refl _), hE.keep ⟨rfl, rfl, rfl, rfl, trivial⟩, hI, hR39⟩ ?_
  clear hE hI hO461; rintro m476 a w ⟨i477, rest479, s459, G453, A455, c456, cs457, rfl, hi483, hd480, hO461, hg463, hE, hI, hR458⟩; rcases rest479 with _ | ⟨x478, rest479⟩
  · obtain rfl := forL_nil hO461; have hlt482 := drop_nil hd480 hi483; clear hd480; refine c_seq ?_; refine c_reg ?_; refine run tt_ok 1 hE rfl fun a hE => ?_; refine c_end ?_; refine xT ?_; refine c_seq ?_
    have hE := hE.tr (t := 16) rfl (decide_eq_false (by omega)); refine c_false hE rfl ?_; refine c_exit ?_; refine xTe ?_; refine xTe ?_; refine xBh ?_; refine xT ?_
    exact ⟨_, G453, A455, c456, cs457, rfl, hg463, hE.keep ⟨rfl, trivial⟩, hI, hR458⟩
  obtain ⟨stp475, hF, hO461⟩ := forL_step hO461; obtain ⟨hx481, hd480, hlt482⟩ := drop_cons hd480; unfold schema_Catalog_Tables.b0 at hF; refine c_seq ?_; refine c_reg ?_; refine run tt_ok 1 hE rfl fun a hE => ?_
  refine c_end ?_; refine xT ?_; refine c_seq ?_; have hE := hE.tr (t := 16) rfl (decide_eq_true (by omega)); refine c_true hE rfl ?_; refine c_skip ?_; refine xT ?_; refine c_seq ?_; refine c_block ?_; refine c_seq ?_
  refine c_reg ?_; refine run tt_ok 1 hE rfl fun a hE => ?_; obtain ⟨y495, hy496, hF⟩ := bd hF; obtain ⟨b501, rfl⟩ := row_ptr 0 hI rfl rfl (getO_some hy496).2
  obtain ⟨ec497, hel498, hrep499, hcs500⟩ := rl_at hR458 (getO_some hy496).2; obtain ⟨A502, c503, A505, c506, A508, c509, rfl, h504, h507, h510⟩ := TRelation.inv.1 hrep499
  refine s_rt hI hE rfl (f_idx tt_ok (row_idx (getO_some hy496).1 (getO_some hy496).2 b501 6) rfl rfl rfl) rfl fun a hE => ?_
  refine s_rt hI hE rfl (f_loadR tt_ok 0 rfl hcs500 0 rfl rfl rfl rfl (row_len hR458 (getO_some hy496).2)) rfl fun a hE => ?_; refine s_alloc hI hE rfl z_109 rfl rfl fun a w b511 hE hI => ?_
  refine run tt_ok 1 hE rfl fun a hE => ?_; refine s_storeB tt_ok 0 hI hE rfl rfl rfl rfl rfl rfl rfl rfl rfl rfl fun a w hE hI => ?_; refine c_end ?_; refine xT ?_
  refine c_mix [14, 17, 20, 23] (.step 0 0 (.step 1 0 (.step 2 0 (.step 3 0 (.step 4 0 (.step 5 0 (.step 6 0 (.step 7 1 (.step 9 0 (.step 10 1 (.step 12 0 (.step 13 1 (.step 8 2 (.step 11 2 (.step 14 3 (.step 15 0 (.step 16 0 (.step 17 3 (.step 18 0 (.step 19 0 (.step 20 3 (.step 21 0 (.step 22 0 (.step 23 3 .nil)))))))))))))))))))))))) [.blk b511 [.string y495.Name, .int .i64 y495.Rows, .slice A502 y495.Cols.length c503, .slice A505 y495.Key.length c506, .int .i64 y495.Hide, .slice A508 y495.When.length c509] 109] mixed (by kernel_rfl) hI ?_; clear hI; intro w hI
  have hS := hI.sw (Ls := [.blk b511 [.string y495.Name, .int .i64 y495.Rows, .slice A502 y495.Cols.length c503, .slice A505 y495.Key.length c506, .int .i64 y495.Hide, .slice A508 y495.When.length c509] 109]) [0] (by decide) rfl (GH.le.refl _)
  refine mix_run tt_ok 7 hE rfl fun a hE => ?_; refine d_ld hS hE rfl rfl (RT.sw fun _ => (f_loadB tt_ok 0 rfl rfl rfl rfl)) rfl fun a hE => ?_; refine mix_run tt_ok 1 hE rfl fun a hE => ?_
  refine d_ld hS hE rfl rfl (RT.sw fun _ => (f_loadB tt_ok 0 rfl rfl rfl rfl)) rfl fun a hE => ?_; refine mix_run tt_ok 1 hE rfl fun a hE => ?_
  refine d_ld hS hE rfl rfl (RT.sw fun _ => (f_loadB tt_ok 0 rfl rfl rfl rfl)) rfl fun a hE => ?_; refine d_eff rfl ?_; obtain ⟨y608, hy609, hF⟩ := bd hF
  refine s_call0 cl_71 hI hE rfl rfl ((slices_Clone_api_Field_api_Field.ok k) _ _ hy609 _ _ _ _ hI.pass0 h504) rfl ?_; clear hE hI; rintro a w _ G611 _ ⟨rfl, A612, c613, rfl, h614⟩ hg610 hI hE
  have hS := hI.sw (Ls := [.blk b511 [.string y495.Name, .int .i64 y495.Rows, .slice A502 y495.Cols.length c503, .slice A505 y495.Key.length c506, .int .i64 y495.Hide, .slice A508 y495.When.length c509] 109]) [0] (by decide) rfl hg610; refine d_next hS ?_
  refine d_eff rfl ?_; obtain ⟨y615, hy616, hF⟩ := bd hF; refine s_call0 cl_72 hI hE rfl rfl ((slices_Clone_int_int.ok k) _ _ hy616 _ _ _ _ hI.pass0 (h507.mono hg610)) rfl ?_; clear hE hI
  rintro a w _ G618 _ ⟨rfl, A619, c620, rfl, h621⟩ hg617 hI hE
  have hS := hI.sw (Ls := [.blk b511 [.string y495.Name, .int .i64 y495.Rows, .slice A502 y495.Cols.length c503, .slice A505 y495.Key.length c506, .int .i64 y495.Hide, .slice A508 y495.When.length c509] 109]) [0] (by decide) rfl (hg610.trans hg617); refine d_next hS ?_
  refine d_last rfl ?_; obtain ⟨y622, hy623, hF⟩ := bd hF; refine s_call0 cl_73 hI hE rfl rfl ((slices_Clone_api_Expr_api_Expr.ok k) _ _ hy623 _ _ _ _ hI.pass0 (h510.mono (hg610.trans hg617))) rfl ?_; clear hE hI
  rintro a w _ G625 _ ⟨rfl, A626, c627, rfl, h628⟩ hg624 hI hE; refine d_nextl ?_; obtain ⟨y629, hy630, hF⟩ := bd hF
  obtain ⟨ec631, hel632, hrep633, hcs634⟩ := rl_at (hR458.mono ((hg610.trans hg617).trans hg624)) (getO_some hy630).2; obtain ⟨A635, c636, A638, c639, A641, c642, rfl, h637, h640, h643⟩ := TRelation.inv.1 hrep633
  refine d_rt hE rfl rfl (f_idx tt_ok (row_idx (getO_some hy630).1 (getO_some hy630).2 b501 6) rfl rfl rfl) rfl fun a hE => ?_; refine mix_run tt_ok 1 hE rfl fun a hE => ?_; refine d_last rfl ?_
  refine s_storeS (xs := s459) (j := (i477 : Int)) (y' := (TRelation.mk y629.Name y629.Rows y608 y629.Key y629.Hide y629.When)) tt_ok 1 hI hE rfl rfl hcs634 hel632 (row_len (hR458.mono ((hg610.trans hg617).trans hg624)) (getO_some hy630).2) 2 rfl rfl rfl rfl rfl rfl rfl rfl fun a w hE hl644 hI => ?_
  have hR645 : RL G625 6 ((setO s459 (i477 : Int) (TRelation.mk y629.Name y629.Rows y608 y629.Key y629.Hide y629.When)).map TRelation.d) (putAt cs457 ((i477 : Int).toNat * 6) [.string y629.Name, .int .i64 y629.Rows, .slice A612 y608.length c613, .slice A638 y629.Key.length c639, .int .i64 y629.Hide, .slice A641 y629.When.length c642]) := RL.set (hR458.mono ((hg610.trans hg617).trans hg624)) (row_lt (getO_some hy630).2) ((TRelation.inv (x := (TRelation.mk y629.Name y629.Rows y608 y629.Key y629.Hide y629.When))).2 ⟨A612, c613, A638, c639, A641, c642, rfl, (h614.mono (hg617.trans hg624)), h640, h643⟩) hl644
  have hE := hE.setV (t := 3) rfl (sl_set (xs := s459) (j := (i477 : Int)) (y' := (TRelation.mk y629.Name y629.Rows y608 y629.Key y629.Hide y629.When)))
  have hE := hE.setV (t := 13) rfl (sl_set (xs := s459) (j := (i477 : Int)) (y' := (TRelation.mk y629.Name y629.Rows y608 y629.Key y629.Hide y629.When)))
  have hE := hE.setV (t := 20) rfl (sl_set (xs := s459) (j := (i477 : Int)) (y' := (TRelation.mk y629.Name y629.Rows y608 y629.Key y629.Hide y629.When)))
  have hE := hE.setV (t := 22) rfl (sl_set (xs := s459) (j := (i477 : Int)) (y' := (TRelation.mk y629.Name y629.Rows y608 y629.Key y629.Hide y629.When)))
  have hE := hE.setV (t := 24) rfl (sl_set (xs := s459) (j := (i477 : Int)) (y' := (TRelation.mk y629.Name y629.Rows y608 y629.Key y629.Hide y629.When))); refine d_nextl ?_; obtain ⟨y646, hy647, hF⟩ := bd hF
  obtain ⟨ec648, hel649, hrep650, hcs651⟩ := rl_at hR645 (getO_some hy647).2; obtain ⟨A652, c653, A655, c656, A658, c659, rfl, h654, h657, h660⟩ := TRelation.inv.1 hrep650
  refine d_rt hE rfl rfl (f_idx tt_ok (row_idx (getO_some hy647).1 (getO_some hy647).2 b501 6) rfl rfl rfl) rfl fun a hE => ?_; refine mix_run tt_ok 1 hE rfl fun a hE => ?_; refine d_last rfl ?_
  refine s_storeS (xs := (setO s459 (i477 : Int) (TRelation.mk y629.Name y629.Rows y608 y629.Key y629.Hide y629.When))) (j := (i477 : Int)) (y' := (TRelation.mk y646.Name y646.Rows y646.Cols y615 y646.Hide y646.When)) tt_ok 1 hI hE rfl rfl hcs651 hel649 (row_len hR645 (getO_some hy647).2) 3 rfl rfl rfl rfl rfl rfl rfl rfl fun a w hE hl661 hI => ?_
  have hR662 : RL G625 6 ((setO (setO s459 (i477 : Int) (TRelation.mk y629.Name y629.Rows y608 y629.Key y629.Hide y629.When)) (i477 : Int) (TRelation.mk y646.Name y646.Rows y646.Cols y615 y646.Hide y646.When)).map TRelation.d) (putAt (putAt cs457 ((i477 : Int).toNat * 6) [.string y629.Name, .int .i64 y629.Rows, .slice A612 y608.length c613, .slice A638 y629.Key.length c639, .int .i64 y629.Hide, .slice A641 y629.When.length c642]) ((i477 : Int).toNat * 6) [.string y646.Name, .int .i64 y646.Rows, .slice A652 y646.Cols.length c653, .slice A619 y615.length c620, .int .i64 y646.Hide, .slice A658 y646.When.length c659]) := RL.set hR645 (row_lt (getO_some hy647).2) ((TRelation.inv (x := (TRelation.mk y646.Name y646.Rows y646.Cols y615 y646.Hide y646.When))).2 ⟨A652, c653, A619, c620, A658, c659, rfl, h654, (h621.mono hg624), h660⟩) hl661
  have hE := hE.setV (t := 3) rfl (sl_set (xs := (setO s459 (i477 : Int) (TRelation.mk y629.Name y629.Rows y608 y629.Key y629.Hide y629.When))) (j := (i477 : Int)) (y' := (TRelation.mk y646.Name y646.Rows y646.Cols y615 y646.Hide y646.When)))
  have hE := hE.setV (t := 13) rfl (sl_set (xs := (setO s459 (i477 : Int) (TRelation.mk y629.Name y629.Rows y608 y629.Key y629.Hide y629.When))) (j := (i477 : Int)) (y' := (TRelation.mk y646.Name y646.Rows y646.Cols y615 y646.Hide y646.When)))
  have hE := hE.setV (t := 20) rfl (sl_set (xs := (setO s459 (i477 : Int) (TRelation.mk y629.Name y629.Rows y608 y629.Key y629.Hide y629.When))) (j := (i477 : Int)) (y' := (TRelation.mk y646.Name y646.Rows y646.Cols y615 y646.Hide y646.When)))
  have hE := hE.setV (t := 22) rfl (sl_set (xs := (setO s459 (i477 : Int) (TRelation.mk y629.Name y629.Rows y608 y629.Key y629.Hide y629.When))) (j := (i477 : Int)) (y' := (TRelation.mk y646.Name y646.Rows y646.Cols y615 y646.Hide y646.When)))
  have hE := hE.setV (t := 24) rfl (sl_set (xs := (setO s459 (i477 : Int) (TRelation.mk y629.Name y629.Rows y608 y629.Key y629.Hide y629.When))) (j := (i477 : Int)) (y' := (TRelation.mk y646.Name y646.Rows y646.Cols y615 y646.Hide y646.When)))
  refine d_nextl ?_; obtain ⟨y663, hy664, hF⟩ := bd hF; obtain ⟨ec665, hel666, hrep667, hcs668⟩ := rl_at hR662 (getO_some hy664).2
  obtain ⟨A669, c670, A672, c673, A675, c676, rfl, h671, h674, h677⟩ := TRelation.inv.1 hrep667; refine d_rt hE rfl rfl (f_idx tt_ok (row_idx (getO_some hy664).1 (getO_some hy664).2 b501 6) rfl rfl rfl) rfl fun a hE => ?_
  refine mix_run tt_ok 1 hE rfl fun a hE => ?_; refine d_last rfl ?_
  refine s_storeS (xs := (setO (setO s459 (i477 : Int) (TRelation.mk y629.Name y629.Rows y608 y629.Key y629.Hide y629.When)) (i477 : Int) (TRelation.mk y646.Name y646.Rows y646.Cols y615 y646.Hide y646.When))) (j := (i477 : Int)) (y' := (TRelation.mk y663.Name y663.Rows y663.Cols y663.Key y663.Hide y622)) tt_ok 1 hI hE rfl rfl hcs668 hel666 (row_len hR662 (getO_some hy664).2) 5 rfl rfl rfl rfl rfl rfl rfl rfl fun a w hE hl678 hI => ?_
  have hR679 : RL G625 6 ((setO (setO (setO s459 (i477 : Int) (TRelation.mk y629.Name y629.Rows y608 y629.Key y629.Hide y629.When)) (i477 : Int) (TRelation.mk y646.Name y646.Rows y646.Cols y615 y646.Hide y646.When)) (i477 : Int) (TRelation.mk y663.Name y663.Rows y663.Cols y663.Key y663.Hide y622)).map TRelation.d) (putAt (putAt (putAt cs457 ((i477 : Int).toNat * 6) [.string y629.Name, .int .i64 y629.Rows, .slice A612 y608.length c613, .slice A638 y629.Key.length c639, .int .i64 y629.Hide, .slice A641 y629.When.length c642]) ((i477 : Int).toNat * 6) [.string y646.Name, .int .i64 y646.Rows, .slice A652 y646.Cols.length c653, .slice A619 y615.length c620, .int .i64 y646.Hide, .slice A658 y646.When.length c659]) ((i477 : Int).toNat * 6) [.string y663.Name, .int .i64 y663.Rows, .slice A669 y663.Cols.length c670, .slice A672 y663.Key.length c673, .int .i64 y663.Hide, .slice A626 y622.length c627]) := RL.set hR662 (row_lt (getO_some hy664).2) ((TRelation.inv (x := (TRelation.mk y663.Name y663.Rows y663.Cols y663.Key y663.Hide y622))).2 ⟨A669, c670, A672, c673, A626, c627, rfl, h671, h674, h628⟩) hl678
  have hE := hE.setV (t := 3) rfl (sl_set (xs := (setO (setO s459 (i477 : Int) (TRelation.mk y629.Name y629.Rows y608 y629.Key y629.Hide y629.When)) (i477 : Int) (TRelation.mk y646.Name y646.Rows y646.Cols y615 y646.Hide y646.When))) (j := (i477 : Int)) (y' := (TRelation.mk y663.Name y663.Rows y663.Cols y663.Key y663.Hide y622)))
  have hE := hE.setV (t := 13) rfl (sl_set (xs := (setO (setO s459 (i477 : Int) (TRelation.mk y629.Name y629.Rows y608 y629.Key y629.Hide y629.When)) (i477 : Int) (TRelation.mk y646.Name y646.Rows y646.Cols y615 y646.Hide y646.When))) (j := (i477 : Int)) (y' := (TRelation.mk y663.Name y663.Rows y663.Cols y663.Key y663.Hide y622)))
  have hE := hE.setV (t := 20) rfl (sl_set (xs := (setO (setO s459 (i477 : Int) (TRelation.mk y629.Name y629.Rows y608 y629.Key y629.Hide y629.When)) (i477 : Int) (TRelation.mk y646.Name y646.Rows y646.Cols y615 y646.Hide y646.When))) (j := (i477 : Int)) (y' := (TRelation.mk y663.Name y663.Rows y663.Cols y663.Key y663.Hide y622)))
  have hE := hE.setV (t := 22) rfl (sl_set (xs := (setO (setO s459 (i477 : Int) (TRelation.mk y629.Name y629.Rows y608 y629.Key y629.Hide y629.When)) (i477 : Int) (TRelation.mk y646.Name y646.Rows y646.Cols y615 y646.Hide y646.When))) (j := (i477 : Int)) (y' := (TRelation.mk y663.Name y663.Rows y663.Cols y663.Key y663.Hide y622)))
  have hE := hE.setV (t := 24) rfl (sl_set (xs := (setO (setO s459 (i477 : Int) (TRelation.mk y629.Name y629.Rows y608 y629.Key y629.Hide y629.When)) (i477 : Int) (TRelation.mk y646.Name y646.Rows y646.Cols y615 y646.Hide y646.When))) (j := (i477 : Int)) (y' := (TRelation.mk y663.Name y663.Rows y663.Cols y663.Key y663.Hide y622)))
  refine d_nextl ?_; refine d_end ?_; refine xB ?_; refine xT ?_; refine c_reg ?_; refine run tt_ok 2 hE rfl fun a hE => ?_; refine c_end ?_; refine xT ?_; cases hF; have hE := hE.setI (t := 15) rfl (w64_succ hlt482 hl484)
  exact ⟨rest479.length, Nat.lt_succ_self _, i477 + 1, rest479, _, G625, (some ⟨b501, 0, none⟩), c456, (putAt (putAt (putAt cs457 ((i477 : Int).toNat * 6) [.string y629.Name, .int .i64 y629.Rows, .slice A612 y608.length c613, .slice A638 y629.Key.length c639, .int .i64 y629.Hide, .slice A641 y629.When.length c642]) ((i477 : Int).toNat * 6) [.string y646.Name, .int .i64 y646.Rows, .slice A652 y646.Cols.length c653, .slice A619 y615.length c620, .int .i64 y646.Hide, .slice A658 y646.When.length c659]) ((i477 : Int).toNat * 6) [.string y663.Name, .int .i64 y663.Rows, .slice A669 y663.Cols.length c670, .slice A672 y663.Key.length c673, .int .i64 y663.Hide, .slice A626 y622.length c627]), rfl, hlt482, hd480, hO461, (((hg463.trans hg610).trans hg617).trans hg624), hE.keep ⟨rfl, rfl, rfl, rfl, trivial⟩, (hI.dropN 1 rfl), hR679⟩

theorem cl_39 : Callable Try.prog 39 := ⟨_, Try.func39, by kernel_rfl, by kernel_rfl⟩

def schema_Catalog_Limit.C (s : (Option Tschema_Catalog) → Option Int) : Prop := ∀ (p0 : Option Tschema_Catalog) (r : Int), s p0 = some r → ∀ (w0 : World) (G0 : GH) (A1 : Option Addr), Inv w0 G0 [] G0 [] w0 → (Pt G0 A1 103 Tschema_Catalog.d p0) → Calls Try.prog 39 #[.pointer A1] w0 (Ret w0 G0 [] fun G' L' v => L' = [] ∧ v = .int .i64 r)

theorem schema_Catalog_Limit.ok (k : Nat) : schema_Catalog_Limit.C (schema_Catalog_Limit k) := by
  intro p0 r hF w0 G0 A1 hI h2
  unfold schema_Catalog_Limit at hF
  refine calls_of_wp Try.func39 rfl ?_
  have hE : Env _ 9 [(0, .pointer A1)] := Env.start ⟨[.pointer A1]⟩ 8
  refine c_seq ?_; refine c_reg ?_; refine run tt_ok 1 hE rfl fun a hE => ?_; refine c_end ?_; refine xT ?_; refine c_seq ?_; refine c_seq ?_; refine c_reg ?_; refine run tt_ok 1 hE rfl fun a hE => ?_
  refine s_rt hI hE rfl (f_pnil up_63 h2 rfl rfl) rfl fun a hE => ?_; refine c_end ?_; refine xT ?_; refine c_if (b := p0.isNone) hE rfl (fun hb23 => ?_) (fun hb23 => ?_)
  · replace hF := ct hb23 hF; refine c_seq ?_; refine c_reg ?_; refine run tt_ok 1 hE rfl fun a hE => ?_; refine c_end ?_; refine xT ?_; refine c_ret ?_; refine xTr ?_; cases hF
    refine r_ret (v := _) hE rfl ⟨_, _, _, rfl, hI.nil, rfl, rfl⟩
  replace hF := cf hb23 hF; refine c_skip ?_; refine xT ?_; refine c_seq ?_; refine c_reg ?_; refine run tt_ok 1 hE rfl fun a hE => ?_; rcases (h2).cases with ⟨hp7, rfl⟩ | ⟨y5, b6, cs, hp7, rfl, hR8, hA9⟩
  · cases op_n hp7 hF
  replace hF := op_s hp7 hF; obtain ⟨A10, A12, c13, A15, A17, c18, A20, c21, rfl, h11, h14, h16, h19, h22⟩ := Tschema_Catalog.inv.1 hR8; refine run tt_ok 2 hE rfl fun a hE => ?_
  refine s_rt hI hE rfl (f_loadG tt_ok hA9 5 rfl rfl rfl rfl) rfl fun a hE => ?_; refine run tt_ok 1 hE rfl fun a hE => ?_; refine c_end ?_; refine xT ?_; refine c_ret ?_; cases hF
  refine r_ret (v := _) hE rfl ⟨_, _, _, rfl, hI.nil, rfl, rfl⟩

theorem cl_42 : Callable Try.prog 42 := ⟨_, Try.func42, by kernel_rfl, by kernel_rfl⟩

def slices_Clone_string_string.C (s : (List ByteArray) → Option (List ByteArray)) : Prop := ∀ (p0 : List ByteArray) (r : (List ByteArray)), s p0 = some r → ∀ (w0 : World) (G0 : GH) (A1 : Option Addr) (c2 : Nat), Inv w0 G0 [] G0 [] w0 → (Sl G0 A1 c2 1 (p0.map D.str)) → Calls Try.prog 42 #[.slice A1 p0.length c2] w0 (Ret w0 G0 [] fun G' L' v => L' = [] ∧ ∃ A0 c0, v = .slice A0 r.length c0 ∧ Sl G' A0 c0 1 (r.map D.str))

theorem slices_Clone_string_string.ok (k : Nat) : slices_Clone_string_string.C (slices_Clone_string_string k) := by
  intro p0 r hF w0 G0 A1 c2 hI h3
  unfold slices_Clone_string_string at hF
  refine calls_of_wp Try.func42 rfl ?_
  have hE : Env _ 8 [(0, .slice A1 p0.length c2)] := Env.start ⟨[.slice A1 p0.length c2]⟩ 7
  refine c_seq ?_; refine c_reg ?_; refine run tt_ok 1 hE rfl fun a hE => ?_; refine c_end ?_; refine xT ?_; refine c_seq ?_; refine c_seq ?_; refine c_reg ?_; refine run tt_ok 1 hE rfl fun a hE => ?_
  rcases A1 with _ | ad5
  · obtain rfl := (h3).nil0; have hF : some [] = some r := hF; cases hF; refine s_rt hI hE rfl (f_slnil tt_ok rfl rfl rfl rfl) rfl fun a hE => ?_; refine c_end ?_; refine xT ?_; refine c_true hE rfl ?_; refine c_seq ?_
    refine c_reg ?_; refine run tt_ok 1 hE rfl fun a hE => ?_; refine c_end ?_; refine xT ?_; refine c_ret ?_; refine xTr ?_
    refine r_ret (v := _) hE rfl ⟨_, _, _, rfl, hI.nil, rfl, none, 0, rfl, (Sl.nil _ _ _ _ (Nat.zero_le _))⟩
  refine s_rt hI hE rfl (f_slnil tt_ok rfl rfl rfl rfl) rfl fun a hE => ?_; refine c_end ?_; refine xT ?_; refine c_false hE rfl ?_; refine c_skip ?_; refine xT ?_; refine c_seq ?_; refine c_reg ?_
  refine s_bsl ai_22 hI hE rfl rfl rfl rfl rfl fun a w b10 hE hI => ?_; have hR12 : RL G0 1 (([] : List ByteArray).map D.str) [] := RL.nil; refine run tt_ok 1 hE rfl fun a hE => ?_; obtain ⟨_, hb13, hF⟩ := bd hF
  refine s_appG (f := D.str) (xs := ([] : List ByteArray)) (ys := p0) ai_22 0 hI hE rfl rfl h3 rfl rfl (lim_le hb13) rfl fun a w A14 c15 cs16 hE hR18 hI => ?_; have hR17 := RL.appm hR12 hR18
  refine run tt_ok 1 hE rfl fun a hE => ?_; refine c_end ?_; refine xT ?_; obtain ⟨G19, hg20, hI, h21⟩ := (hI.front 0).giveR (xs := (([] : List ByteArray) ++ p0).map D.str) (by simp) hR17; refine c_ret ?_; cases hF
  refine r_ret (v := _) hE rfl ⟨_, _, _, rfl, hI.nil, rfl, A14, c15, rfl, h21⟩

theorem cl_43 : Callable Try.prog 43 := ⟨_, Try.func43, by kernel_rfl, by kernel_rfl⟩

def lattice_Lattice_named.C (s : Tlattice_Lattice → Option (Int × Tlattice_Lattice)) : Prop := ∀ (p0 : Tlattice_Lattice) (r : Int × Tlattice_Lattice), s p0 = some r → ∀ (w0 : World) (G0 : GH) (D0 : List Nat) (b1 : Nat) (A2 : Option Addr) (c3 : Nat) (m6 : Nat) (es8 : Array MapEntry) (cl9 : Nat) (A13 : Option Addr) (c14 : Nat) (cs15 : List Value) (A19 : Option Addr) (c20 : Nat) (cs21 : List Value), Inv w0 G0 D0 G0 [.blk b1 ([.slice A2 p0.names_.length c3, .map (some m6), .slice A13 p0.up_.length c14, .slice A19 p0.down_.length c20] ++ (arCells .i64 256 p0.join_ ++ (arCells .i64 256 p0.meet_ ++ []))) 78, .map m6 es8 cl9, .row (.slice A13 p0.up_.length c14) 83 1 p0.up_.length cs15, .row (.slice A19 p0.down_.length c20) 83 1 p0.down_.length cs21] w0 → (Sl G0 A2 c3 1 (p0.names_.map D.str)) → (RM G0 false D.str (D.int .i64) p0.at_ es8.toList) → (RL G0 1 (p0.up_.map (D.int .u32)) cs15) → (RL G0 1 (p0.down_.map (D.int .u32)) cs21) → Calls Try.prog 43 #[.pointer (some ⟨b1, 0, none⟩)] w0 (Ret w0 G0 D0 fun G' L' v => ∃ e0_1 c0_1 A0_2 c0_2 e0_2 A0_3 c0_3 e0_3, L' = [.blk b1 ([.slice A2 p0.names_.length c3, .map (some m6), .slice A0_2 r.2.up_.length c0_2, .slice A0_3 r.2.down_.length c0_3] ++ (arCells .i64 256 p0.join_ ++ (arCells .i64 256 p0.meet_ ++ []))) 78, .map m6 e0_1 c0_1, .row (.slice A0_2 r.2.up_.length c0_2) 83 1 r.2.up_.length e0_2, .row (.slice A0_3 r.2.down_.length c0_3) 83 1 r.2.down_.length e0_3] ∧ v = .int .i64 r.1 ∧ RM G' false D.str (D.int .i64) r.2.at_ e0_1.toList ∧ RL G' 1 (r.2.up_.map (D.int .u32)) e0_2 ∧ RL G' 1 (r.2.down_.map (D.int .u32)) e0_3)
end Go.Proofs.Ytliaopbgkcdibaa
