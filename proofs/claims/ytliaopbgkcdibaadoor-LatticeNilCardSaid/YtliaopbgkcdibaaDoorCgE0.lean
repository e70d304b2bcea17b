/- The contracts: what the machine does at a call is what the plain function says. Written by mk.py. -/
import Derived.Test.YtliaopbgkcdibaaDoorCtE
set_option linter.unusedVariables false
set_option linter.unusedSimpArgs false
set_option maxRecDepth 100000
namespace Go.Proofs.YtliaopbgkcdibaaDoor
open Go.RowKit
theorem cl_5 : Callable Tryd.prog 5 := ⟨_, Tryd.func5, by kernel_rfl, by kernel_rfl⟩

def law03_Few.C (s : (List ByteArray) → (List TPair) → Option Bool) : Prop := ∀ (p0 : List ByteArray) (p1 : List TPair) (r : Bool), s p0 p1 = some r → ∀ (w0 : World) (G0 : GH) (A1 : Option Addr) (c2 : Nat) (A4 : Option Addr) (c5 : Nat), Inv w0 G0 [] G0 [] w0 → (Sl G0 A1 c2 1 (p0.map D.str)) → (Sl G0 A4 c5 2 (p1.map TPair.d)) → Calls Tryd.prog 5 #[.slice A1 p0.length c2, .slice A4 p1.length c5] w0 (Ret w0 G0 [] fun G' L' v => L' = [] ∧ v = .bool r)

theorem law03_Few.ok (k : Nat) : law03_Few.C (law03_Few k) := by
  intro p0 p1 r hF w0 G0 A1 c2 A4 c5 hI h3 h6
  unfold law03_Few at hF
  refine calls_of_wp Tryd.func5 rfl ?_
  have hE : Env _ 44 [(0, .slice A1 p0.length c2), (1, .slice A4 p1.length c5)] := Env.start ⟨[.slice A1 p0.length c2, .slice A4 p1.length c5]⟩ 42
  refine c_seq ?_; refine c_reg ?_; refine run tt_ok 1 hE rfl fun a hE => ?_; refine c_end ?_; refine xT ?_; refine c_seq ?_; refine c_seq ?_; refine c_reg ?_; refine run tt_ok 3 hE rfl fun a hE => ?_; refine c_end ?_
  refine xT ?_; obtain ⟨o20, hO21, hK22⟩ := bd hF; clear hF
  refine c_cut (fun a' w' => ∃ (s24 : Unit) (G25 : GH), o20 = .go s24 ∧ G0.le G25 ∧ Env a' 44 [(0, .slice A1 p0.length c2), (1, .slice A4 p1.length c5)] ∧ Inv w0 G0 [] G25 [] w') ?_ ?_
  · refine c_block ?_
    refine wp_loop_ghost (fun n' a' w' => ∃ (i90 : Nat) (rest92 : List ByteArray) (s19 : Unit) (G18 : GH), n' = rest92.length ∧ i90 ≤ p0.length ∧ p0.drop i90 = rest92 ∧ forL (law03_Few.b1 k) i90 rest92 s19 = some o20 ∧ G0.le G18 ∧ Env a' 44 [(11, .int .i64 (i90 : Int)), (0, .slice A1 p0.length c2), (1, .slice A4 p1.length c5), (9, .slice A1 p0.length c2), (10, .int .i64 (p0.length : Int))] ∧ Inv w0 G0 [] G18 [] w') _ ⟨0, _, _, G0, rfl, Nat.zero_le _, rfl, hO21, (GH.le.refl _), hE.keep ⟨rfl, rfl, rfl, rfl, rfl, trivial⟩, hI⟩ ?_
    clear hE hI hO21; rintro m89 a w ⟨i90, rest92, s19, G18, rfl, hi96, hd93, hO21, hg23, hE, hI⟩; rcases rest92 with _ | ⟨x91, rest92⟩
    · obtain rfl := forL_nil hO21; have hlt95 := drop_nil hd93 hi96; clear hd93; refine c_seq ?_; refine c_reg ?_; refine run tt_ok 1 hE rfl fun a hE => ?_; refine c_end ?_; refine xT ?_; refine c_seq ?_
      have hE := hE.tr (t := 12) rfl (decide_eq_false (by omega)); refine c_false hE rfl ?_; refine c_exit ?_; refine xTe ?_; refine xTe ?_; refine xBh ?_; refine xT ?_
      exact ⟨_, G18, rfl, hg23, hE.keep ⟨rfl, rfl, trivial⟩, hI⟩
    obtain ⟨stp88, hF, hO21⟩ := forL_step hO21; obtain ⟨hx94, hd93, hlt95⟩ := drop_cons hd93; unfold law03_Few.b1 at hF; refine c_seq ?_; refine c_reg ?_; refine run tt_ok 1 hE rfl fun a hE => ?_; refine c_end ?_
    refine xT ?_; refine c_seq ?_; have hE := hE.tr (t := 12) rfl (decide_eq_true (by omega)); refine c_true hE rfl ?_; refine c_skip ?_; refine xT ?_; refine c_seq ?_; refine c_block ?_; refine c_seq ?_; refine c_reg ?_
    obtain ⟨b98, o99, cs, hb102, hR101, hA100⟩ := sl_at (h3.mono hg23) (Int.natCast_nonneg _) (natIdx hx94); obtain rfl := rep_str.1 hR101; refine s_rt hI hE rfl (f_idx tt_ok hb102 rfl rfl rfl) rfl fun a hE => ?_
    refine s_rt hI hE rfl (f_loadG tt_ok hA100 0 rfl rfl rfl rfl) rfl fun a hE => ?_; refine run tt_ok 1 hE rfl fun a hE => ?_; refine c_end ?_; refine xT ?_; refine c_seq ?_; refine c_reg ?_
    refine run tt_ok 3 hE rfl fun a hE => ?_; refine c_end ?_; refine xT ?_; refine c_if (b := decide ((60 : Int) < (x91.size : Int))) hE rfl (fun hb103 => ?_) (fun hb103 => ?_)
    · replace hF := ct hb103 hF; refine c_seq ?_; refine c_reg ?_; refine run tt_ok 1 hE rfl fun a hE => ?_; refine c_end ?_; refine xT ?_; refine c_ret ?_; refine xBr ?_; refine xTr ?_; refine xTr ?_; refine xBr ?_
      refine xTr ?_; refine xTr ?_; cases hF; obtain rfl := nxt_ret hO21; have hF := lrk_ret hK22; cases hF; refine r_ret (v := _) hE rfl ⟨_, _, _, rfl, hI.nil, rfl, rfl⟩
    replace hF := cf hb103 hF; refine c_skip ?_; refine xB ?_; refine xT ?_; refine c_reg ?_; refine run tt_ok 2 hE rfl fun a hE => ?_; refine c_end ?_; refine xT ?_; cases hF
    have hE := hE.setI (t := 11) rfl (w64_succ hlt95 (len_le h3)); exact ⟨rest92.length, Nat.lt_succ_self _, i90 + 1, rest92, _, G18, rfl, hlt95, hd93, hO21, hg23, hE.keep ⟨rfl, rfl, rfl, rfl, rfl, trivial⟩, hI⟩
  clear hE hI hO21; rintro a w ⟨s24, G25, rfl, hg26, hE, hI⟩; have hF := lrk_go hK22; clear hK22; refine xT ?_; refine c_seq ?_; refine c_seq ?_; refine c_reg ?_; refine run tt_ok 3 hE rfl fun a hE => ?_; refine c_end ?_
  refine xT ?_; obtain ⟨o49, hO50, hK51⟩ := bd hF; clear hF
  refine c_cut (fun a' w' => ∃ (s53 : Unit) (G54 : GH), o49 = .go s53 ∧ G25.le G54 ∧ Env a' 44 [(0, .slice A1 p0.length c2), (1, .slice A4 p1.length c5)] ∧ Inv w0 G0 [] G54 [] w') ?_ ?_; rotate_left
  · clear hE hI hO50; rintro a w ⟨s53, G54, rfl, hg55, hE, hI⟩; have hF := lrk_go hK51; clear hK51; refine xT ?_; refine c_seq ?_; obtain ⟨m59, hF, hR61⟩ := bd hF
    refine c_cut (fun a' w' => ∃ (G57 : GH), G54.le G57 ∧ Env a' 44 [(4, .bool m59)] ∧ Inv w0 G0 [] G57 [] w') ?_ ?_; rotate_left
    · clear hE hI; rintro a w ⟨G57, hg60, hE, hI⟩; clear hF; have hF := hR61; clear hR61; refine xT ?_; refine c_ret ?_; cases hF; refine r_ret (v := _) hE rfl ⟨_, _, _, rfl, hI.nil, rfl, rfl⟩
    refine c_reg ?_; refine run tt_ok 4 hE rfl fun a hE => ?_; rcases bool_or (decide ((p0.length : Int) ≤ (20 : Int))) with hb62 | hb62
    · replace hF := ct hb62 hF; have hE := hE.tr (t := 39) rfl hb62; clear hb62; refine run tt_ok 5 hE rfl fun a hE => ?_; refine c_end ?_; refine xT ?_; cases hF; exact ⟨G54, (GH.le.refl _), hE.keep ⟨rfl, trivial⟩, hI⟩
    replace hF := cf hb62 hF; have hE := hE.tr (t := 39) rfl hb62; clear hb62; refine run tt_ok 5 hE rfl fun a hE => ?_; refine c_end ?_; refine xT ?_; cases hF; exact ⟨G54, (GH.le.refl _), hE.keep ⟨rfl, trivial⟩, hI⟩
  refine c_block ?_
  refine wp_loop_ghost (fun n' a' w' => ∃ (i65 : Nat) (rest67 : List TPair) (s48 : Unit) (G47 : GH), n' = rest67.length ∧ i65 ≤ p1.length ∧ p1.drop i65 = rest67 ∧ forL (law03_Few.b0 k) i65 rest67 s48 = some o49 ∧ G25.le G47 ∧ Env a' 44 [(21, .int .i64 (i65 : Int)), (0, .slice A1 p0.length c2), (1, .slice A4 p1.length c5), (19, .slice A4 p1.length c5), (20, .int .i64 (p1.length : Int))] ∧ Inv w0 G0 [] G47 [] w') _ ⟨0, _, _, G25, rfl, Nat.zero_le _, rfl, hO50, (GH.le.refl _), hE.keep ⟨rfl, rfl, rfl, rfl, rfl, trivial⟩, hI⟩ ?_
  clear hE hI hO50; rintro m64 a w ⟨i65, rest67, s48, G47, rfl, hi71, hd68, hO50, hg52, hE, hI⟩; rcases rest67 with _ | ⟨x66, rest67⟩
  · obtain rfl := forL_nil hO50; have hlt70 := drop_nil hd68 hi71; clear hd68; refine c_seq ?_; refine c_reg ?_; refine run tt_ok 1 hE rfl fun a hE => ?_; refine c_end ?_; refine xT ?_; refine c_seq ?_
    have hE := hE.tr (t := 22) rfl (decide_eq_false (by omega)); refine c_false hE rfl ?_; refine c_exit ?_; refine xTe ?_; refine xTe ?_; refine xBh ?_; refine xT ?_
    exact ⟨_, G47, rfl, hg52, hE.keep ⟨rfl, rfl, trivial⟩, hI⟩
  obtain ⟨stp63, hF, hO50⟩ := forL_step hO50; obtain ⟨hx69, hd68, hlt70⟩ := drop_cons hd68; unfold law03_Few.b0 at hF; refine c_seq ?_; refine c_reg ?_; refine run tt_ok 1 hE rfl fun a hE => ?_; refine c_end ?_
  refine xT ?_; refine c_seq ?_; have hE := hE.tr (t := 22) rfl (decide_eq_true (by omega)); refine c_true hE rfl ?_; refine c_skip ?_; refine xT ?_; refine c_seq ?_; refine c_block ?_; refine c_seq ?_; refine c_reg ?_
  obtain ⟨b73, o74, cs, hb77, hR76, hA75⟩ := sl_at (h6.mono (hg26.trans hg52)) (Int.natCast_nonneg _) (natIdx hx69); obtain rfl := TPair.inv.1 hR76; refine s_rt hI hE rfl (f_idx tt_ok hb77 rfl rfl rfl) rfl fun a hE => ?_
  refine s_rt hI hE rfl (f_loadG tt_ok hA75 0 rfl rfl rfl rfl) rfl fun a hE => ?_; refine s_alloc hI hE rfl z_45 rfl rfl fun a w b78 hE hI => ?_
  refine s_storeB tt_ok 0 hI hE rfl rfl rfl rfl rfl rfl rfl rfl rfl rfl fun a w hE hI => ?_; refine c_end ?_; refine xT ?_; refine c_seq ?_; obtain ⟨m83, hF, hR85⟩ := bd hF
  refine c_cut (fun a' w' => ∃ (G81 : GH), G47.le G81 ∧ Env a' 44 [(0, .slice A1 p0.length c2), (1, .slice A4 p1.length c5), (19, .slice A4 p1.length c5), (20, .int .i64 (p1.length : Int)), (21, .int .i64 (i65 : Int)), (34, .bool m83)] ∧ Inv w0 G0 [] G81 [] w') ?_ ?_
  · refine c_reg ?_; refine run tt_ok 1 hE rfl fun a hE => ?_; refine s_rt hI hE rfl (f_loadB tt_ok 0 rfl rfl rfl rfl) rfl fun a hE => ?_; refine run tt_ok 3 hE rfl fun a hE => ?_
    rcases bool_or (decide ((60 : Int) < (x66.Low.size : Int))) with hb87 | hb87
    · replace hF := ct hb87 hF; have hE := hE.tr (t := 29) rfl hb87; clear hb87; refine run tt_ok 5 hE rfl fun a hE => ?_; refine c_end ?_; refine xT ?_; cases hF
      exact ⟨G47, (GH.le.refl _), hE.keep ⟨rfl, rfl, rfl, rfl, rfl, rfl, trivial⟩, (hI.dropN 1 rfl)⟩
    replace hF := cf hb87 hF; have hE := hE.tr (t := 29) rfl hb87; clear hb87; refine run tt_ok 1 hE rfl fun a hE => ?_; refine s_rt hI hE rfl (f_loadB tt_ok 0 rfl rfl rfl rfl) rfl fun a hE => ?_
    refine run tt_ok 3 hE rfl fun a hE => ?_; refine c_end ?_; refine xT ?_; cases hF; exact ⟨G47, (GH.le.refl _), hE.keep ⟨rfl, rfl, rfl, rfl, rfl, rfl, trivial⟩, (hI.dropN 1 rfl)⟩
  clear hE hI; rintro a w ⟨G81, hg84, hE, hI⟩; clear hF; have hF := hR85; clear hR85; refine xT ?_; refine c_if (b := m83) hE rfl (fun hb86 => ?_) (fun hb86 => ?_)
  · replace hF := ct hb86 hF; refine c_seq ?_; refine c_reg ?_; refine run tt_ok 1 hE rfl fun a hE => ?_; refine c_end ?_; refine xT ?_; refine c_ret ?_; refine xBr ?_; refine xTr ?_; refine xTr ?_; refine xBr ?_
    refine xTr ?_; refine xTr ?_; cases hF; obtain rfl := nxt_ret hO50; have hF := lrk_ret hK51; cases hF; refine r_ret (v := _) hE rfl ⟨_, _, _, rfl, hI.nil, rfl, rfl⟩
  replace hF := cf hb86 hF; refine c_skip ?_; refine xB ?_; refine xT ?_; refine c_reg ?_; refine run tt_ok 2 hE rfl fun a hE => ?_; refine c_end ?_; refine xT ?_; cases hF
  have hE := hE.setI (t := 21) rfl (w64_succ hlt70 (len_le h6)); exact ⟨rest67.length, Nat.lt_succ_self _, i65 + 1, rest67, _, G81, rfl, hlt70, hd68, hO50, (hg52.trans hg84), hE.keep ⟨rfl, rfl, rfl, rfl, rfl, trivial⟩, hI⟩

theorem cl_23 : Callable Tryd.prog 23 := ⟨_, Tryd.func23, by kernel_rfl, by kernel_rfl⟩

def slices_Clone_string_string.C (s : (List ByteArray) → Option (List ByteArray)) : Prop := ∀ (p0 : List ByteArray) (r : (List ByteArray)), s p0 = some r → ∀ (w0 : World) (G0 : GH) (A1 : Option Addr) (c2 : Nat), Inv w0 G0 [] G0 [] w0 → (Sl G0 A1 c2 1 (p0.map D.str)) → Calls Tryd.prog 23 #[.slice A1 p0.length c2] w0 (Ret w0 G0 [] fun G' L' v => L' = [] ∧ ∃ A0 c0, v = .slice A0 r.length c0 ∧ Sl G' A0 c0 1 (r.map D.str))

theorem slices_Clone_string_string.ok (k : Nat) : slices_Clone_string_string.C (slices_Clone_string_string k) := by
  intro p0 r hF w0 G0 A1 c2 hI h3
  unfold slices_Clone_string_string at hF
  refine calls_of_wp Tryd.func23 rfl ?_
  have hE : Env _ 8 [(0, .slice A1 p0.length c2)] := Env.start ⟨[.slice A1 p0.length c2]⟩ 7
  refine c_seq ?_; refine c_reg ?_; refine run tt_ok 1 hE rfl fun a hE => ?_; refine c_end ?_; refine xT ?_; refine c_seq ?_; refine c_seq ?_; refine c_reg ?_; refine run tt_ok 1 hE rfl fun a hE => ?_
  rcases A1 with _ | ad5
  · obtain rfl := (h3).nil0; have hF : some [] = some r := hF; cases hF; refine s_rt hI hE rfl (f_slnil tt_ok rfl rfl rfl rfl) rfl fun a hE => ?_; refine c_end ?_; refine xT ?_; refine c_true hE rfl ?_; refine c_seq ?_
    refine c_reg ?_; refine run tt_ok 1 hE rfl fun a hE => ?_; refine c_end ?_; refine xT ?_; refine c_ret ?_; refine xTr ?_
    refine r_ret (v := _) hE rfl ⟨_, _, _, rfl, hI.nil, rfl, none, 0, rfl, (Sl.nil _ _ _ _ (Nat.zero_le _))⟩
  refine s_rt hI hE rfl (f_slnil tt_ok rfl rfl rfl rfl) rfl fun a hE => ?_; refine c_end ?_; refine xT ?_; refine c_false hE rfl ?_; refine c_skip ?_; refine xT ?_; refine c_seq ?_; refine c_reg ?_
  refine s_bsl ai_22 hI hE rfl rfl rfl rfl rfl fun a w b10 hE hI => ?_; have hR12 : RL G0 1 (([] : List ByteArray).map D.str) [] := RL.nil; refine run tt_ok 1 hE rfl fun a hE => ?_; obtain ⟨_, hb13, hF⟩ := bd hF
  refine s_appG (f := D.str) (xs := ([] : List ByteArray)) (ys := p0) ai_22 0 hI hE rfl rfl h3 rfl rfl (lim_le hb13) rfl fun a w A14 c15 cs16 hE hR18 hI => ?_; have hR17 := RL.appm hR12 hR18
  refine run tt_ok 1 hE rfl fun a hE => ?_; refine c_end ?_; refine xT ?_; obtain ⟨G19, hg20, hI, h21⟩ := (hI.front 0).giveR (xs := (([] : List ByteArray) ++ p0).map D.str) (by simp) hR17; refine c_ret ?_; cases hF
  refine r_ret (v := _) hE rfl ⟨_, _, _, rfl, hI.nil, rfl, A14, c15, rfl, h21⟩

theorem cl_24 : Callable Tryd.prog 24 := ⟨_, Tryd.func24, by kernel_rfl, by kernel_rfl⟩

def lattice_Lattice_named.C (s : Tlattice_Lattice → Option (Int × Tlattice_Lattice)) : Prop := ∀ (p0 : Tlattice_Lattice) (r : Int × Tlattice_Lattice), s p0 = some r → ∀ (w0 : World) (G0 : GH) (D0 : List Nat) (b1 : Nat) (A2 : Option Addr) (c3 : Nat) (m6 : Nat) (es8 : Array MapEntry) (cl9 : Nat) (A13 : Option Addr) (c14 : Nat) (cs15 : List Value) (A19 : Option Addr) (c20 : Nat) (cs21 : List Value), Inv w0 G0 D0 G0 [.blk b1 ([.slice A2 p0.names_.length c3, .map (some m6), .slice A13 p0.up_.length c14, .slice A19 p0.down_.length c20] ++ (arCells .i64 256 p0.join_ ++ (arCells .i64 256 p0.meet_ ++ []))) 54, .map m6 es8 cl9, .row (.slice A13 p0.up_.length c14) 64 1 p0.up_.length cs15, .row (.slice A19 p0.down_.length c20) 64 1 p0.down_.length cs21] w0 → (Sl G0 A2 c3 1 (p0.names_.map D.str)) → (RM G0 false D.str (D.int .i64) p0.at_ es8.toList) → (RL G0 1 (p0.up_.map (D.int .u32)) cs15) → (RL G0 1 (p0.down_.map (D.int .u32)) cs21) → Calls Tryd.prog 24 #[.pointer (some ⟨b1, 0, none⟩)] w0 (Ret w0 G0 D0 fun G' L' v => ∃ A0_0 c0_0 e0_1 c0_1 A0_2 c0_2 e0_2 A0_3 c0_3 e0_3, L' = [.blk b1 ([.slice A0_0 r.2.names_.length c0_0, .map (some m6), .slice A0_2 r.2.up_.length c0_2, .slice A0_3 r.2.down_.length c0_3] ++ (arCells .i64 256 r.2.join_ ++ (arCells .i64 256 r.2.meet_ ++ []))) 54, .map m6 e0_1 c0_1, .row (.slice A0_2 r.2.up_.length c0_2) 64 1 r.2.up_.length e0_2, .row (.slice A0_3 r.2.down_.length c0_3) 64 1 r.2.down_.length e0_3] ∧ v = .int .i64 r.1 ∧ Sl G' A0_0 c0_0 1 (r.2.names_.map D.str) ∧ RM G' false D.str (D.int .i64) r.2.at_ e0_1.toList ∧ RL G' 1 (r.2.up_.map (D.int .u32)) e0_2 ∧ RL G' 1 (r.2.down_.map (D.int .u32)) e0_3)

theorem lattice_Lattice_named.ok (k : Nat) : lattice_Lattice_named.C (lattice_Lattice_named k) := by
  intro p0 r hF w0 G0 D0 b1 A2 c3 m6 es8 cl9 A13 c14 cs15 A19 c20 cs21 hI h4 hM10 hR16 hR22
  unfold lattice_Lattice_named at hF
  refine calls_of_wp Tryd.func24 rfl ?_
  have hE : Env _ 65 [(0, .pointer (some ⟨b1, 0, none⟩))] := Env.start ⟨[.pointer (some ⟨b1, 0, none⟩)]⟩ 64
  refine c_seq ?_; refine c_reg ?_; refine run tt_ok 1 hE rfl fun a hE => ?_; refine c_end ?_; refine xT ?_; refine c_seq ?_; refine c_seq ?_; refine c_reg ?_; refine run tt_ok 3 hE rfl fun a hE => ?_
  refine s_rt hI hE rfl (f_loadB tt_ok 0 rfl rfl rfl rfl) rfl fun a hE => ?_; refine run tt_ok 2 hE rfl fun a hE => ?_; refine c_end ?_; refine xT ?_; obtain ⟨o261, hO262, hK263⟩ := bd hF; clear hF
  refine c_cut (fun a' w' => ∃ (s265 : (List (ByteArray × Int)) × (List Int) × (List Int)) (G266 : GH) (es268 : Array MapEntry) (cl269 : Nat) (A272 : Option Addr) (c273 : Nat) (cs274 : List Value) (A277 : Option Addr) (c278 : Nat) (cs279 : List Value), o261 = .go s265 ∧ G0.le G266 ∧ Env a' 65 [] ∧ Inv w0 G0 D0 G266 [.blk b1 ([.slice A2 p0.names_.length c3, .map (some m6), .slice A272 s265.2.1.length c273, .slice A277 s265.2.2.length c278] ++ (arCells .i64 256 p0.join_ ++ (arCells .i64 256 p0.meet_ ++ []))) 54, .map m6 es268 cl269, .row (.slice A272 s265.2.1.length c273) 64 1 s265.2.1.length cs274, .row (.slice A277 s265.2.2.length c278) 64 1 s265.2.2.length cs279] w' ∧ RM G266 false D.str (D.int .i64) s265.1 es268.toList ∧ RL G266 1 (s265.2.1.map (D.int .u32)) cs274 ∧ RL G266 1 (s265.2.2.map (D.int .u32)) cs279) ?_ ?_
  rotate_left
  · clear hE hI hO262; rintro a w ⟨s265, G266, es268, cl269, A272, c273, cs274, A277, c278, cs279, rfl, hg281, hE, hI, hM270, hR275, hR280⟩; have hF := lrk_go hK263; clear hK263; refine xT ?_; refine c_seq ?_; refine c_reg ?_
    refine run tt_ok 1 hE rfl fun a hE => ?_; refine c_end ?_; refine xT ?_; refine c_ret ?_; cases hF
    refine r_ret (v := _) hE rfl ⟨_, _, _, rfl, hI, A2, c3, es268, cl269, A272, c273, cs274, A277, c278, cs279, rfl, rfl, (h4.mono hg281), hM270, hR275, hR280⟩
  refine c_block ?_
  refine wp_loop_ghost (fun n' a' w' => ∃ (i284 : Nat) (rest286 : List ByteArray) (s260 : (List (ByteArray × Int)) × (List Int) × (List Int)) (G245 : GH) (es247 : Array MapEntry) (cl248 : Nat) (A251 : Option Addr) (c252 : Nat) (cs253 : List Value) (A256 : Option Addr) (c257 : Nat) (cs258 : List Value), n' = rest286.length ∧ i284 ≤ p0.names_.length ∧ p0.names_.drop i284 = rest286 ∧ forL (lattice_Lattice_named.b0 k p0) i284 rest286 s260 = some o261 ∧ G0.le G245 ∧ Env a' 65 [(12, .int .i64 (i284 : Int)), (0, .pointer (some ⟨b1, 0, none⟩)), (10, .slice A2 p0.names_.length c3), (11, .int .i64 (p0.names_.length : Int))] ∧ Inv w0 G0 D0 G245 [.blk b1 ([.slice A2 p0.names_.length c3, .map (some m6), .slice A251 s260.2.1.length c252, .slice A256 s260.2.2.length c257] ++ (arCells .i64 256 p0.join_ ++ (arCells .i64 256 p0.meet_ ++ []))) 54, .map m6 es247 cl248, .row (.slice A251 s260.2.1.length c252) 64 1 s260.2.1.length cs253, .row (.slice A256 s260.2.2.length c257) 64 1 s260.2.2.length cs258] w' ∧ RM G245 false D.str (D.int .i64) s260.1 es247.toList ∧ RL G245 1 (s260.2.1.map (D.int .u32)) cs253 ∧ RL G245 1 (s260.2.2.map (D.int .u32)) cs258) _ ⟨0, _, _, G0, es8, cl9, A13, c14, cs15, A19, c20, cs21, rfl, Nat.zero_le _, rfl, hO262, (GH.le.refl _), hE.keep ⟨rfl, rfl, rfl, rfl, trivial⟩, hI, hM10, hR16, hR22⟩ ?_
  clear hE hI hO262; rintro m283 a w ⟨i284, rest286, s260, G245, es247, cl248, A251, c252, cs253, A256, c257, cs258, rfl, hi290, hd287, hO262, hg264, hE, hI, hM249, hR254, hR259⟩; rcases rest286 with _ | ⟨x285, rest286⟩
  · obtain rfl := forL_nil hO262; have hlt289 := drop_nil hd287 hi290; clear hd287; refine c_seq ?_; refine c_reg ?_; refine run tt_ok 1 hE rfl fun a hE => ?_; refine c_end ?_; refine xT ?_; refine c_seq ?_
    have hE := hE.tr (t := 13) rfl (decide_eq_false (by omega)); refine c_false hE rfl ?_; refine c_exit ?_; refine xTe ?_; refine xTe ?_; refine xBh ?_; refine xT ?_
    exact ⟨_, G245, es247, cl248, A251, c252, cs253, A256, c257, cs258, rfl, hg264, hE.keep trivial, hI, hM249, hR254, hR259⟩
  obtain ⟨stp282, hF, hO262⟩ := forL_step hO262; obtain ⟨hx288, hd287, hlt289⟩ := drop_cons hd287; unfold lattice_Lattice_named.b0 at hF; refine c_seq ?_; refine c_reg ?_; refine run tt_ok 1 hE rfl fun a hE => ?_
  refine c_end ?_; refine xT ?_; refine c_seq ?_; have hE := hE.tr (t := 13) rfl (decide_eq_true (by omega)); refine c_true hE rfl ?_; refine c_skip ?_; refine xT ?_; refine c_seq ?_; refine c_block ?_; refine c_seq ?_
  refine c_reg ?_; refine run tt_ok 1 hE rfl fun a hE => ?_; obtain ⟨b292, o293, cs, hb296, hR295, hA294⟩ := sl_at (h4.mono hg264) (Int.natCast_nonneg _) (natIdx hx288); obtain rfl := rep_str.1 hR295
  refine s_rt hI hE rfl (f_idx tt_ok hb296 rfl rfl rfl) rfl fun a hE => ?_; refine s_rt hI hE rfl (f_loadG tt_ok hA294 0 rfl rfl rfl rfl) rfl fun a hE => ?_; refine run tt_ok 2 hE rfl fun a hE => ?_; refine c_end ?_
  refine xT ?_; refine c_seq ?_; refine c_seq ?_; refine c_reg ?_; refine run tt_ok 3 hE rfl fun a hE => ?_; refine s_rt hI hE rfl (f_loadB tt_ok 0 rfl rfl rfl rfl) rfl fun a hE => ?_
  refine run tt_ok 1 hE rfl fun a hE => ?_
  obtain ⟨c299, u300, hr301, hu302, hrt303⟩ := f_lookM key_str 1 rfl hM249 um_49 uk_9 true hE (L := [.blk b1 ([.slice A2 p0.names_.length c3, .map (some m6), .slice A251 s260.2.1.length c252, .slice A256 s260.2.2.length c257] ++ (arCells .i64 256 p0.join_ ++ (arCells .i64 256 p0.meet_ ++ []))) 54, .map m6 es247 cl248, .row (.slice A251 s260.2.1.length c252) 64 1 s260.2.1.length cs253, .row (.slice A256 s260.2.2.length c257) 64 1 s260.2.2.length cs258]) (x := .tmp 21) (y := .tmp 22) rfl rfl z_3 (rep_int.2 rfl) rfl
  obtain rfl : c299 = [u300] := hu302; obtain rfl := rep1_int.1 hr301; refine s_rt hI hE rfl (hrt303 _ _ _) rfl fun a hE => ?_; refine run tt_ok 5 hE rfl fun a hE => ?_; refine c_end ?_; refine xT ?_; refine c_seq ?_
  obtain ⟨m308, hF, hR310⟩ := bd hF
  refine c_cut (fun a' w' => ∃ (G306 : GH), G245.le G306 ∧ Env a' 65 [(0, .pointer (some ⟨b1, 0, none⟩)), (3, .int .i64 (i284 : Int)), (4, .string x285), (10, .slice A2 p0.names_.length c3), (11, .int .i64 (p0.names_.length : Int)), (12, .int .i64 (i284 : Int)), (35, .bool m308)] ∧ Inv w0 G0 D0 G306 [.blk b1 ([.slice A2 p0.names_.length c3, .map (some m6), .slice A251 s260.2.1.length c252, .slice A256 s260.2.2.length c257] ++ (arCells .i64 256 p0.join_ ++ (arCells .i64 256 p0.meet_ ++ []))) 54, .map m6 es247 cl248, .row (.slice A251 s260.2.1.length c252) 64 1 s260.2.1.length cs253, .row (.slice A256 s260.2.2.length c257) 64 1 s260.2.2.length cs258] w') ?_ ?_
  · refine c_reg ?_; refine run tt_ok 2 hE rfl fun a hE => ?_; rcases bool_or ((mget s260.1 x285).isSome) with hb373 | hb373
    · replace hF := ct hb373 hF; have hE := hE.tr (t := 27) rfl hb373; clear hb373; refine run tt_ok 8 hE rfl fun a hE => ?_; refine c_end ?_; refine xT ?_; cases hF
      exact ⟨G245, (GH.le.refl _), hE.keep ⟨rfl, rfl, rfl, rfl, rfl, rfl, rfl, trivial⟩, hI⟩
    replace hF := cf hb373 hF; have hE := hE.tr (t := 27) rfl hb373; clear hb373; refine run tt_ok 4 hE rfl fun a hE => ?_; rcases bool_or (decide (x285 = (⟨#[]⟩ : ByteArray))) with hb374 | hb374
    · replace hF := ct hb374 hF; have hE := hE.tr (t := 31) rfl hb374; clear hb374; refine run tt_ok 4 hE rfl fun a hE => ?_; refine c_end ?_; refine xT ?_; cases hF
      exact ⟨G245, (GH.le.refl _), hE.keep ⟨rfl, rfl, rfl, rfl, rfl, rfl, rfl, trivial⟩, hI⟩
    replace hF := cf hb374 hF; have hE := hE.tr (t := 31) rfl hb374; clear hb374; refine run tt_ok 4 hE rfl fun a hE => ?_; refine c_end ?_; refine xT ?_; cases hF
    exact ⟨G245, (GH.le.refl _), hE.keep ⟨rfl, rfl, rfl, rfl, rfl, rfl, rfl, trivial⟩, hI⟩
  clear hE hI; rintro a w ⟨G306, hg309, hE, hI⟩; clear hF; have hF := hR310; clear hR310; refine xT ?_; refine c_if (b := m308) hE rfl (fun hb372 => ?_) (fun hb372 => ?_)
  · replace hF := ct hb372 hF; refine c_seq ?_; refine c_reg ?_; refine run tt_ok 1 hE rfl fun a hE => ?_; refine c_end ?_; refine xT ?_; refine c_ret ?_; refine xTr ?_; refine xBr ?_; refine xTr ?_; refine xTr ?_
    refine xBr ?_; refine xTr ?_; refine xTr ?_; cases hF; obtain rfl := nxt_ret hO262; have hF := lrk_ret hK263; cases hF
    refine r_ret (v := _) hE rfl ⟨_, _, _, rfl, hI, A2, c3, es247, cl248, A251, c252, cs253, A256, c257, cs258, rfl, rfl, (h4.mono (hg264.trans hg309)), (hM249.mono hg309), (hR254.mono hg309), (hR259.mono hg309)⟩
  replace hF := cf hb372 hF; refine c_skip ?_; refine xT ?_; refine c_seq ?_; refine c_reg ?_; refine run tt_ok 3 hE rfl fun a hE => ?_; refine s_rt hI hE rfl (f_loadB tt_ok 0 rfl rfl rfl rfl) rfl fun a hE => ?_
  refine run tt_ok 2 hE rfl fun a hE => ?_; refine s_mapUpd (v := (i284 : Int)) key_str 1 hI hE rfl rfl (hM249.mono hg309) um_49 uk_9 rfl rfl rfl (rep_int.2 rfl) rfl fun a w es311 cl312 hE hM313 hI => ?_; refine c_end ?_
  refine xT ?_; refine c_seq ?_
  refine c_mix [8, 11] [(0, 0), (1, 0), (2, 0), (3, 0), (4, 1), (5, 0), (6, 0), (7, 2), (8, 3), (9, 0), (10, 0), (11, 3)] [.blk b1 ([.slice A2 p0.names_.length c3, .map (some m6), .slice A251 s260.2.1.length c252, .slice A256 s260.2.2.length c257] ++ (arCells .i64 256 p0.join_ ++ (arCells .i64 256 p0.meet_ ++ []))) 54] mixed (by kernel_rfl) hI ?_; clear hI; intro w hI
  have hS := hI.sw (Ls := [.blk b1 ([.slice A2 p0.names_.length c3, .map (some m6), .slice A251 s260.2.1.length c252, .slice A256 s260.2.2.length c257] ++ (arCells .i64 256 p0.join_ ++ (arCells .i64 256 p0.meet_ ++ []))) 54]) [0] (by decide) rfl (GH.le.refl _)
  refine mix_run tt_ok 4 hE rfl fun a hE => ?_; refine d_ld hS hE rfl rfl (RT.sw fun _ => (f_loadB tt_ok 0 rfl rfl rfl rfl)) rfl fun a hE => ?_; refine mix_run tt_ok 1 hE rfl fun a hE => ?_
  obtain ⟨z333, hz334, hF⟩ := bd hF; refine d_rt hE rfl rfl (f_shl rfl rfl hz334) rfl fun a hE => ?_; refine d_eff rfl ?_; refine s_bsl ai_50 hI hE rfl rfl rfl rfl rfl fun a w b335 hE hI => ?_
  have hR337 : RL G306 1 ([z333].map (D.int .u32)) [.int .u32 z333] := (RL.cons (rep_int.2 rfl) rfl RL.nil)
  have hS := hI.sw (Ls := [.blk b1 ([.slice A2 p0.names_.length c3, .map (some m6), .slice A251 s260.2.1.length c252, .slice A256 s260.2.2.length c257] ++ (arCells .i64 256 p0.join_ ++ (arCells .i64 256 p0.meet_ ++ []))) 54]) [1] (by decide) rfl (GH.le.refl _); refine d_next hS ?_
  refine d_last rfl ?_; obtain ⟨_, hb338, hF⟩ := bd hF; refine s_appO (f := (D.int .u32)) (xs := s260.2.1) (ys := [z333]) ai_50 3 0 hI hE rfl rfl rfl hR337 rfl rfl (lim_le hb338) rfl fun a w A339 c340 hE hI => ?_
  have hR342 := RL.appm (hR254.mono hg309) hR337; refine d_nextl ?_; refine mix_run tt_ok 2 hE rfl fun a hE => ?_; refine d_last rfl ?_
  refine s_storeB tt_ok 1 hI hE rfl rfl rfl rfl rfl rfl rfl rfl rfl rfl fun a w hE hI => ?_; refine d_nextl ?_; refine d_end ?_; refine xT ?_
  refine c_mix [8, 11] [(0, 0), (1, 0), (2, 0), (3, 0), (4, 1), (5, 0), (6, 0), (7, 2), (8, 3), (9, 0), (10, 0), (11, 3)] [.blk b1 ([.slice A2 p0.names_.length c3, .map (some m6), .slice A339 (s260.2.1 ++ [z333]).length c340, .slice A256 s260.2.2.length c257] ++ (arCells .i64 256 p0.join_ ++ (arCells .i64 256 p0.meet_ ++ []))) 54] mixed (by kernel_rfl) hI ?_; clear hI; intro w hI
  have hS := hI.sw (Ls := [.blk b1 ([.slice A2 p0.names_.length c3, .map (some m6), .slice A339 (s260.2.1 ++ [z333]).length c340, .slice A256 s260.2.2.length c257] ++ (arCells .i64 256 p0.join_ ++ (arCells .i64 256 p0.meet_ ++ []))) 54]) [1] (by decide) rfl (GH.le.refl _)
  refine mix_run tt_ok 4 hE rfl fun a hE => ?_; refine d_ld hS hE rfl rfl (RT.sw fun _ => (f_loadB tt_ok 0 rfl rfl rfl rfl)) rfl fun a hE => ?_; refine mix_run tt_ok 1 hE rfl fun a hE => ?_
  obtain ⟨z362, hz363, hF⟩ := bd hF; refine d_rt hE rfl rfl (f_shl rfl rfl hz363) rfl fun a hE => ?_; refine d_eff rfl ?_; refine s_bsl ai_50 hI hE rfl rfl rfl rfl rfl fun a w b364 hE hI => ?_
  have hR366 : RL G306 1 ([z362].map (D.int .u32)) [.int .u32 z362] := (RL.cons (rep_int.2 rfl) rfl RL.nil)
  have hS := hI.sw (Ls := [.blk b1 ([.slice A2 p0.names_.length c3, .map (some m6), .slice A339 (s260.2.1 ++ [z333]).length c340, .slice A256 s260.2.2.length c257] ++ (arCells .i64 256 p0.join_ ++ (arCells .i64 256 p0.meet_ ++ []))) 54]) [2] (by decide) rfl (GH.le.refl _); refine d_next hS ?_
  refine d_last rfl ?_; obtain ⟨_, hb367, hF⟩ := bd hF; refine s_appO (f := (D.int .u32)) (xs := s260.2.2) (ys := [z362]) ai_50 5 0 hI hE rfl rfl rfl hR366 rfl rfl (lim_le hb367) rfl fun a w A368 c369 hE hI => ?_
  have hR371 := RL.appm (hR259.mono hg309) hR366; refine d_nextl ?_; refine mix_run tt_ok 2 hE rfl fun a hE => ?_; refine d_last rfl ?_
  refine s_storeB tt_ok 2 hI hE rfl rfl rfl rfl rfl rfl rfl rfl rfl rfl fun a w hE hI => ?_; refine d_nextl ?_; refine d_end ?_; refine xB ?_; refine xT ?_; refine c_reg ?_; refine run tt_ok 2 hE rfl fun a hE => ?_
  refine c_end ?_; refine xT ?_; cases hF; have hE := hE.setI (t := 12) rfl (w64_succ hlt289 (len_le h4))
  exact ⟨rest286.length, Nat.lt_succ_self _, i284 + 1, rest286, _, G306, es311, cl312, A339, c340, (cs253 ++ [.int .u32 z333]), A368, c369, (cs258 ++ [.int .u32 z362]), rfl, hlt289, hd287, hO262, (hg264.trans hg309), hE.keep ⟨rfl, rfl, rfl, rfl, trivial⟩, (hI.dropN 2 rfl), hM313, hR342, hR371⟩

theorem cl_29 : Callable Tryd.prog 29 := ⟨_, Tryd.func29, by kernel_rfl, by kernel_rfl⟩

def lattice_set_has.C (s : Int → Int → Option Bool) : Prop := ∀ (p0 : Int) (p1 : Int) (r : Bool), s p0 p1 = some r → ∀ (w0 : World) (G0 : GH) , Inv w0 G0 [] G0 [] w0 → Calls Tryd.prog 29 #[.int .u32 p0, .int .i64 p1] w0 (Ret w0 G0 [] fun G' L' v => L' = [] ∧ v = .bool r)

theorem lattice_set_has.ok (k : Nat) : lattice_set_has.C (lattice_set_has k) := by
  intro p0 p1 r hF w0 G0  hI 
  unfold lattice_set_has at hF
  refine calls_of_wp Tryd.func29 rfl ?_
  have hE : Env _ 10 [(0, .int .u32 p0), (1, .int .i64 p1)] := Env.start ⟨[.int .u32 p0, .int .i64 p1]⟩ 8
  refine c_seq ?_; refine c_reg ?_; refine run tt_ok 1 hE rfl fun a hE => ?_; refine c_end ?_; refine xT ?_; refine c_seq ?_; refine c_reg ?_; refine run tt_ok 2 hE rfl fun a hE => ?_; obtain ⟨z2, hz3, hF⟩ := bd hF
  refine s_rt hI hE rfl (f_shr rfl rfl hz3) rfl fun a hE => ?_; refine run tt_ok 3 hE rfl fun a hE => ?_; refine c_end ?_; refine xT ?_; refine c_ret ?_; cases hF
  refine r_ret (v := _) hE rfl ⟨_, _, _, rfl, hI.nil, rfl, rfl⟩
end Go.Proofs.YtliaopbgkcdibaaDoor
