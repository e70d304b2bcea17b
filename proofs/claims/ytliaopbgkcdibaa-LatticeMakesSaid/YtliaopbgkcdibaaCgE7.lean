/- The contracts: what the machine does at a call is what the plain function says. Written by mk.py. -/
import Derived.Test.YtliaopbgkcdibaaCgE0
import Derived.Test.YtliaopbgkcdibaaCgE2
import Derived.Test.YtliaopbgkcdibaaCgE3
import Derived.Test.YtliaopbgkcdibaaCgE4
import Derived.Test.YtliaopbgkcdibaaCgE5
import Derived.Test.YtliaopbgkcdibaaCgE6
set_option linter.unusedVariables false
set_option linter.unusedSimpArgs false
set_option maxRecDepth 100000
namespace Go.Proofs.Ytliaopbgkcdibaa
open Go.RowKit
theorem cl_23 : Callable Try.prog 23 := ⟨_, Try.func23, by kernel_rfl, by kernel_rfl⟩

def ref03_Lattice_Bottom.C (s : (Option Tref03_Lattice) → Option Int) : Prop := ∀ (p0 : Option Tref03_Lattice) (r : Int), s p0 = some r → ∀ (w0 : World) (G0 : GH) (A1 : Option Addr), Inv w0 G0 [] G0 [] w0 → (Pt G0 A1 86 Tref03_Lattice.d p0) → Calls Try.prog 23 #[.pointer A1] w0 (Ret w0 G0 [] fun G' L' v => L' = [] ∧ v = .int .i64 r)

theorem ref03_Lattice_Bottom.ok (k : Nat) : ref03_Lattice_Bottom.C (ref03_Lattice_Bottom k) := by
  intro p0 r hF w0 G0 A1 hI h2
  unfold ref03_Lattice_Bottom at hF
  refine calls_of_wp Try.func23 rfl ?_
  have hE : Env _ 33 [(0, .pointer A1)] := Env.start ⟨[.pointer A1]⟩ 32
  refine c_seq ?_; refine c_reg ?_; refine run tt_ok 1 hE rfl fun a hE => ?_; refine c_end ?_; refine xT ?_; refine c_seq ?_; refine c_seq ?_; refine c_reg ?_; refine run tt_ok 1 hE rfl fun a hE => ?_; refine c_end ?_
  refine xT ?_; rcases (h2).cases with ⟨hp5, rfl⟩ | ⟨y3, b4, cs, hp5, rfl, hR6, hA7⟩
  · cases op_n hp5 hF
  replace hF := op_s hp5 hF; obtain ⟨A8, c9, A11, c12, rfl, h10, h13⟩ := Tref03_Lattice.inv.1 hR6; obtain ⟨o107, hO108, hK109⟩ := bd hF; clear hF
  refine c_cut (fun a' w' => ∃ (s111 : Unit) (G112 : GH), o107 = .go s111 ∧ G0.le G112 ∧ Env a' 33 [] ∧ Inv w0 G0 [] G112 [] w') ?_ ?_; rotate_left
  · clear hE hI hO108; rintro a w ⟨s111, G112, rfl, hg113, hE, hI⟩; have hF := lrk_go hK109; clear hK109; refine xT ?_; refine c_seq ?_; refine c_reg ?_; refine run tt_ok 1 hE rfl fun a hE => ?_; refine c_end ?_; refine xT ?_
    refine c_ret ?_; cases hF; refine r_ret (v := _) hE rfl ⟨_, _, _, rfl, hI.nil, rfl, rfl⟩
  refine c_block ?_
  refine wp_loop_ghost (fun n' a' w' => ∃ (i116 : Nat) (rest118 : List ByteArray) (s106 : Unit) (G105 : GH), n' = rest118.length ∧ i116 ≤ y3.Names.length ∧ y3.Names.drop i116 = rest118 ∧ forL (ref03_Lattice_Bottom.b0 k p0 y3) i116 rest118 s106 = some o107 ∧ G0.le G105 ∧ Env a' 33 [(3, .int .i64 (i116 : Int)), (0, .pointer (some ⟨b4, 0, none⟩))] ∧ Inv w0 G0 [] G105 [] w') _ ⟨0, _, _, G0, rfl, Nat.zero_le _, rfl, hO108, (GH.le.refl _), hE.keep ⟨rfl, rfl, trivial⟩, hI⟩ ?_
  clear hE hI hO108; rintro m115 a w ⟨i116, rest118, s106, G105, rfl, hi122, hd119, hO108, hg110, hE, hI⟩; rcases rest118 with _ | ⟨x117, rest118⟩
  · obtain rfl := forL_nil hO108; have hlt121 := drop_nil hd119 hi122; clear hd119; refine c_seq ?_; refine c_seq ?_; refine c_reg ?_; refine run tt_ok 4 hE rfl fun a hE => ?_
    refine s_rt hI hE rfl (f_loadG tt_ok (hA7.mono hg110) 0 rfl rfl rfl rfl) rfl fun a hE => ?_; refine run tt_ok 2 hE rfl fun a hE => ?_; refine c_end ?_; refine xT ?_
    have hE := hE.tr (t := 12) rfl (decide_eq_false (by omega)); refine c_false hE rfl ?_; refine c_exit ?_; refine xTe ?_; refine xTe ?_; refine xBh ?_; refine xT ?_; exact ⟨_, G105, rfl, hg110, hE.keep trivial, hI⟩
  obtain ⟨stp114, hF, hO108⟩ := forL_step hO108; obtain ⟨hx120, hd119, hlt121⟩ := drop_cons hd119; unfold ref03_Lattice_Bottom.b0 at hF; refine c_seq ?_; refine c_seq ?_; refine c_reg ?_
  refine run tt_ok 4 hE rfl fun a hE => ?_; refine s_rt hI hE rfl (f_loadG tt_ok (hA7.mono hg110) 0 rfl rfl rfl rfl) rfl fun a hE => ?_; refine run tt_ok 2 hE rfl fun a hE => ?_; refine c_end ?_; refine xT ?_
  have hE := hE.tr (t := 12) rfl (decide_eq_true (by omega)); refine c_true hE rfl ?_; refine c_skip ?_; refine xT ?_; refine c_seq ?_; refine c_block ?_; refine c_seq ?_; refine c_reg ?_
  refine run tt_ok 1 hE rfl fun a hE => ?_; refine c_end ?_; refine xT ?_; refine c_seq ?_; refine c_seq ?_; refine c_reg ?_; refine run tt_ok 1 hE rfl fun a hE => ?_; refine c_end ?_; refine xT ?_
  obtain ⟨o169, hO170, hK171⟩ := bd hF; clear hF
  refine c_cut (fun a' w' => ∃ (s173 : Bool) (G174 : GH), o169 = .go s173 ∧ G105.le G174 ∧ Env a' 33 [(0, .pointer (some ⟨b4, 0, none⟩)), (3, .int .i64 (i116 : Int)), (4, .bool s173)] ∧ Inv w0 G0 [] G174 [] w') ?_ ?_
  rotate_left
  · clear hE hI hO170; rintro a w ⟨s173, G174, rfl, hg176, hE, hI⟩; have hF := lrk_go hK171; clear hK171; refine xT ?_; refine c_seq ?_; refine c_reg ?_; refine run tt_ok 1 hE rfl fun a hE => ?_; refine c_end ?_; refine xT ?_
    refine c_if (b := s173) hE rfl (fun hb177 => ?_) (fun hb177 => ?_)
    · replace hF := ct hb177 hF; refine c_seq ?_; refine c_reg ?_; refine run tt_ok 2 hE rfl fun a hE => ?_; refine c_end ?_; refine xT ?_; refine c_ret ?_; refine xBr ?_; refine xTr ?_; refine xTr ?_; refine xBr ?_
      refine xTr ?_; refine xTr ?_; cases hF; obtain rfl := nxt_ret hO108; have hF := lrk_ret hK109; cases hF; refine r_ret (v := _) hE rfl ⟨_, _, _, rfl, hI.nil, rfl, rfl⟩
    replace hF := cf hb177 hF; refine c_skip ?_; refine xB ?_; refine xT ?_; refine c_reg ?_; refine run tt_ok 3 hE rfl fun a hE => ?_; refine c_end ?_; refine xT ?_; cases hF
    have hE := hE.setI (t := 3) rfl (w64_succ hlt121 (len_le h10)); exact ⟨rest118.length, Nat.lt_succ_self _, i116 + 1, rest118, _, G174, rfl, hlt121, hd119, hO108, (hg110.trans hg176), hE.keep ⟨rfl, rfl, trivial⟩, hI⟩
  refine c_block ?_
  refine wp_loop_ghost (fun n' a' w' => ∃ (i180 : Nat) (rest182 : List ByteArray) (s168 : Bool) (G166 : GH), n' = rest182.length ∧ i180 ≤ y3.Names.length ∧ y3.Names.drop i180 = rest182 ∧ forL (ref03_Lattice_Bottom.b1 k p0 i116) i180 rest182 s168 = some o169 ∧ G105.le G166 ∧ Env a' 33 [(5, .int .i64 (i180 : Int)), (0, .pointer (some ⟨b4, 0, none⟩)), (3, .int .i64 (i116 : Int)), (4, .bool s168)] ∧ Inv w0 G0 [] G166 [] w') _ ⟨0, _, _, G105, rfl, Nat.zero_le _, rfl, hO170, (GH.le.refl _), hE.keep ⟨rfl, rfl, rfl, rfl, trivial⟩, hI⟩ ?_
  clear hE hI hO170; rintro m179 a w ⟨i180, rest182, s168, G166, rfl, hi186, hd183, hO170, hg172, hE, hI⟩; rcases rest182 with _ | ⟨x181, rest182⟩
  · obtain rfl := forL_nil hO170; have hlt185 := drop_nil hd183 hi186; clear hd183; refine c_seq ?_; refine c_seq ?_; refine c_reg ?_; refine run tt_ok 4 hE rfl fun a hE => ?_
    refine s_rt hI hE rfl (f_loadG tt_ok (hA7.mono (hg110.trans hg172)) 0 rfl rfl rfl rfl) rfl fun a hE => ?_; refine run tt_ok 2 hE rfl fun a hE => ?_; refine c_end ?_; refine xT ?_
    have hE := hE.tr (t := 21) rfl (decide_eq_false (by omega)); refine c_false hE rfl ?_; refine c_exit ?_; refine xTe ?_; refine xTe ?_; refine xBh ?_; refine xT ?_
    exact ⟨_, G166, rfl, hg172, hE.keep ⟨rfl, rfl, rfl, trivial⟩, hI⟩
  obtain ⟨stp178, hF, hO170⟩ := forL_step hO170; obtain ⟨hx184, hd183, hlt185⟩ := drop_cons hd183; unfold ref03_Lattice_Bottom.b1 at hF; refine c_seq ?_; refine c_seq ?_; refine c_reg ?_
  refine run tt_ok 4 hE rfl fun a hE => ?_; refine s_rt hI hE rfl (f_loadG tt_ok (hA7.mono (hg110.trans hg172)) 0 rfl rfl rfl rfl) rfl fun a hE => ?_; refine run tt_ok 2 hE rfl fun a hE => ?_; refine c_end ?_; refine xT ?_
  have hE := hE.tr (t := 21) rfl (decide_eq_true (by omega)); refine c_true hE rfl ?_; refine c_skip ?_; refine xT ?_; refine c_seq ?_; refine c_block ?_; obtain ⟨m198, hF, hR200⟩ := bd hF
  refine c_cut (fun a' w' => ∃ (G196 : GH), G166.le G196 ∧ Env a' 33 [(0, .pointer (some ⟨b4, 0, none⟩)), (3, .int .i64 (i116 : Int)), (4, .bool m198), (5, .int .i64 (i180 : Int))] ∧ Inv w0 G0 [] G196 [] w') ?_ ?_
  rotate_left
  · clear hE hI; rintro a w ⟨G196, hg199, hE, hI⟩; clear hF; have hF := hR200; clear hR200; refine xB ?_; refine xT ?_; refine c_reg ?_; refine run tt_ok 3 hE rfl fun a hE => ?_; refine c_end ?_; refine xT ?_; cases hF
    have hE := hE.setI (t := 5) rfl (w64_succ hlt185 (len_le h10))
    exact ⟨rest182.length, Nat.lt_succ_self _, i180 + 1, rest182, _, G196, rfl, hlt185, hd183, hO170, (hg172.trans hg199), hE.keep ⟨rfl, rfl, rfl, rfl, trivial⟩, hI⟩
  refine c_reg ?_; refine run tt_ok 2 hE rfl fun a hE => ?_; rcases bool_or s168 with hb201 | hb201; rotate_left
  · replace hF := cf hb201 hF; have hE := hE.tr (t := 25) rfl hb201; clear hb201; refine run tt_ok 6 hE rfl fun a hE => ?_; refine c_end ?_; refine xT ?_; cases hF
    exact ⟨G166, (GH.le.refl _), hE.keep ⟨rfl, rfl, rfl, rfl, trivial⟩, hI⟩
  replace hF := ct hb201 hF; have hE := hE.tr (t := 25) rfl hb201; clear hb201; refine run tt_ok 3 hE rfl fun a hE => ?_; obtain ⟨y202, hy203, hF⟩ := bd hF
  refine s_call0 cl_50 hI hE rfl rfl ((ref03_Lattice_Leq.ok k) _ _ _ _ hy203 _ _ _ hI.pass0 (h2.mono (hg110.trans hg172))) rfl ?_; clear hE hI; rintro a w _ G205 _ ⟨rfl, rfl⟩ hg204 hI hE
  refine run tt_ok 2 hE rfl fun a hE => ?_; refine c_end ?_; refine xT ?_; cases hF; exact ⟨G205, hg204, hE.keep ⟨rfl, rfl, rfl, rfl, trivial⟩, hI⟩

theorem cl_24 : Callable Try.prog 24 := ⟨_, Try.func24, by kernel_rfl, by kernel_rfl⟩

def ref03_Lattice_Top.C (s : (Option Tref03_Lattice) → Option Int) : Prop := ∀ (p0 : Option Tref03_Lattice) (r : Int), s p0 = some r → ∀ (w0 : World) (G0 : GH) (A1 : Option Addr), Inv w0 G0 [] G0 [] w0 → (Pt G0 A1 86 Tref03_Lattice.d p0) → Calls Try.prog 24 #[.pointer A1] w0 (Ret w0 G0 [] fun G' L' v => L' = [] ∧ v = .int .i64 r)

theorem ref03_Lattice_Top.ok (k : Nat) : ref03_Lattice_Top.C (ref03_Lattice_Top k) := by
  intro p0 r hF w0 G0 A1 hI h2
  unfold ref03_Lattice_Top at hF
  refine calls_of_wp Try.func24 rfl ?_
  have hE : Env _ 33 [(0, .pointer A1)] := Env.start ⟨[.pointer A1]⟩ 32
  refine c_seq ?_; refine c_reg ?_; refine run tt_ok 1 hE rfl fun a hE => ?_; refine c_end ?_; refine xT ?_; refine c_seq ?_; refine c_seq ?_; refine c_reg ?_; refine run tt_ok 1 hE rfl fun a hE => ?_; refine c_end ?_
  refine xT ?_; rcases (h2).cases with ⟨hp5, rfl⟩ | ⟨y3, b4, cs, hp5, rfl, hR6, hA7⟩
  · cases op_n hp5 hF
  replace hF := op_s hp5 hF; obtain ⟨A8, c9, A11, c12, rfl, h10, h13⟩ := Tref03_Lattice.inv.1 hR6; obtain ⟨o107, hO108, hK109⟩ := bd hF; clear hF
  refine c_cut (fun a' w' => ∃ (s111 : Unit) (G112 : GH), o107 = .go s111 ∧ G0.le G112 ∧ Env a' 33 [] ∧ Inv w0 G0 [] G112 [] w') ?_ ?_; rotate_left
  · clear hE hI hO108; rintro a w ⟨s111, G112, rfl, hg113, hE, hI⟩; have hF := lrk_go hK109; clear hK109; refine xT ?_; refine c_seq ?_; refine c_reg ?_; refine run tt_ok 1 hE rfl fun a hE => ?_; refine c_end ?_; refine xT ?_
    refine c_ret ?_; cases hF; refine r_ret (v := _) hE rfl ⟨_, _, _, rfl, hI.nil, rfl, rfl⟩
  refine c_block ?_
  refine wp_loop_ghost (fun n' a' w' => ∃ (i116 : Nat) (rest118 : List ByteArray) (s106 : Unit) (G105 : GH), n' = rest118.length ∧ i116 ≤ y3.Names.length ∧ y3.Names.drop i116 = rest118 ∧ forL (ref03_Lattice_Top.b0 k p0 y3) i116 rest118 s106 = some o107 ∧ G0.le G105 ∧ Env a' 33 [(3, .int .i64 (i116 : Int)), (0, .pointer (some ⟨b4, 0, none⟩))] ∧ Inv w0 G0 [] G105 [] w') _ ⟨0, _, _, G0, rfl, Nat.zero_le _, rfl, hO108, (GH.le.refl _), hE.keep ⟨rfl, rfl, trivial⟩, hI⟩ ?_
  clear hE hI hO108; rintro m115 a w ⟨i116, rest118, s106, G105, rfl, hi122, hd119, hO108, hg110, hE, hI⟩; rcases rest118 with _ | ⟨x117, rest118⟩
  · obtain rfl := forL_nil hO108; have hlt121 := drop_nil hd119 hi122; clear hd119; refine c_seq ?_; refine c_seq ?_; refine c_reg ?_; refine run tt_ok 4 hE rfl fun a hE => ?_
    refine s_rt hI hE rfl (f_loadG tt_ok (hA7.mono hg110) 0 rfl rfl rfl rfl) rfl fun a hE => ?_; refine run tt_ok 2 hE rfl fun a hE => ?_; refine c_end ?_; refine xT ?_
    have hE := hE.tr (t := 12) rfl (decide_eq_false (by omega)); refine c_false hE rfl ?_; refine c_exit ?_; refine xTe ?_; refine xTe ?_; refine xBh ?_; refine xT ?_; exact ⟨_, G105, rfl, hg110, hE.keep trivial, hI⟩
  obtain ⟨stp114, hF, hO108⟩ := forL_step hO108; obtain ⟨hx120, hd119, hlt121⟩ := drop_cons hd119; unfold ref03_Lattice_Top.b0 at hF; refine c_seq ?_; refine c_seq ?_; refine c_reg ?_
  refine run tt_ok 4 hE rfl fun a hE => ?_; refine s_rt hI hE rfl (f_loadG tt_ok (hA7.mono hg110) 0 rfl rfl rfl rfl) rfl fun a hE => ?_; refine run tt_ok 2 hE rfl fun a hE => ?_; refine c_end ?_; refine xT ?_
  have hE := hE.tr (t := 12) rfl (decide_eq_true (by omega)); refine c_true hE rfl ?_; refine c_skip ?_; refine xT ?_; refine c_seq ?_; refine c_block ?_; refine c_seq ?_; refine c_reg ?_
  refine run tt_ok 1 hE rfl fun a hE => ?_; refine c_end ?_; refine xT ?_; refine c_seq ?_; refine c_seq ?_; refine c_reg ?_; refine run tt_ok 1 hE rfl fun a hE => ?_; refine c_end ?_; refine xT ?_
  obtain ⟨o169, hO170, hK171⟩ := bd hF; clear hF
  refine c_cut (fun a' w' => ∃ (s173 : Bool) (G174 : GH), o169 = .go s173 ∧ G105.le G174 ∧ Env a' 33 [(0, .pointer (some ⟨b4, 0, none⟩)), (3, .int .i64 (i116 : Int)), (4, .bool s173)] ∧ Inv w0 G0 [] G174 [] w') ?_ ?_
  rotate_left
  · clear hE hI hO170; rintro a w ⟨s173, G174, rfl, hg176, hE, hI⟩; have hF := lrk_go hK171; clear hK171; refine xT ?_; refine c_seq ?_; refine c_reg ?_; refine run tt_ok 1 hE rfl fun a hE => ?_; refine c_end ?_; refine xT ?_
    refine c_if (b := s173) hE rfl (fun hb177 => ?_) (fun hb177 => ?_)
    · replace hF := ct hb177 hF; refine c_seq ?_; refine c_reg ?_; refine run tt_ok 2 hE rfl fun a hE => ?_; refine c_end ?_; refine xT ?_; refine c_ret ?_; refine xBr ?_; refine xTr ?_; refine xTr ?_; refine xBr ?_
      refine xTr ?_; refine xTr ?_; cases hF; obtain rfl := nxt_ret hO108; have hF := lrk_ret hK109; cases hF; refine r_ret (v := _) hE rfl ⟨_, _, _, rfl, hI.nil, rfl, rfl⟩
    replace hF := cf hb177 hF; refine c_skip ?_; refine xB ?_; refine xT ?_; refine c_reg ?_; refine run tt_ok 3 hE rfl fun a hE => ?_; refine c_end ?_; refine xT ?_; cases hF
    have hE := hE.setI (t := 3) rfl (w64_succ hlt121 (len_le h10)); exact ⟨rest118.length, Nat.lt_succ_self _, i116 + 1, rest118, _, G174, rfl, hlt121, hd119, hO108, (hg110.trans hg176), hE.keep ⟨rfl, rfl, trivial⟩, hI⟩
  refine c_block ?_
  refine wp_loop_ghost (fun n' a' w' => ∃ (i180 : Nat) (rest182 : List ByteArray) (s168 : Bool) (G166 : GH), n' = rest182.length ∧ i180 ≤ y3.Names.length ∧ y3.Names.drop i180 = rest182 ∧ forL (ref03_Lattice_Top.b1 k p0 i116) i180 rest182 s168 = some o169 ∧ G105.le G166 ∧ Env a' 33 [(5, .int .i64 (i180 : Int)), (0, .pointer (some ⟨b4, 0, none⟩)), (3, .int .i64 (i116 : Int)), (4, .bool s168)] ∧ Inv w0 G0 [] G166 [] w') _ ⟨0, _, _, G105, rfl, Nat.zero_le _, rfl, hO170, (GH.le.refl _), hE.keep ⟨rfl, rfl, rfl, rfl, trivial⟩, hI⟩ ?_
  clear hE hI hO170; rintro m179 a w ⟨i180, rest182, s168, G166, rfl, hi186, hd183, hO170, hg172, hE, hI⟩; rcases rest182 with _ | ⟨x181, rest182⟩
  · obtain rfl := forL_nil hO170; have hlt185 := drop_nil hd183 hi186; clear hd183; refine c_seq ?_; refine c_seq ?_; refine c_reg ?_; refine run tt_ok 4 hE rfl fun a hE => ?_
    refine s_rt hI hE rfl (f_loadG tt_ok (hA7.mono (hg110.trans hg172)) 0 rfl rfl rfl rfl) rfl fun a hE => ?_; refine run tt_ok 2 hE rfl fun a hE => ?_; refine c_end ?_; refine xT ?_
    have hE := hE.tr (t := 21) rfl (decide_eq_false (by omega)); refine c_false hE rfl ?_; refine c_exit ?_; refine xTe ?_; refine xTe ?_; refine xBh ?_; refine xT ?_
    exact ⟨_, G166, rfl, hg172, hE.keep ⟨rfl, rfl, rfl, trivial⟩, hI⟩
  obtain ⟨stp178, hF, hO170⟩ := forL_step hO170; obtain ⟨hx184, hd183, hlt185⟩ := drop_cons hd183; unfold ref03_Lattice_Top.b1 at hF; refine c_seq ?_; refine c_seq ?_; refine c_reg ?_
  refine run tt_ok 4 hE rfl fun a hE => ?_; refine s_rt hI hE rfl (f_loadG tt_ok (hA7.mono (hg110.trans hg172)) 0 rfl rfl rfl rfl) rfl fun a hE => ?_; refine run tt_ok 2 hE rfl fun a hE => ?_; refine c_end ?_; refine xT ?_
  have hE := hE.tr (t := 21) rfl (decide_eq_true (by omega)); refine c_true hE rfl ?_; refine c_skip ?_; refine xT ?_; refine c_seq ?_; refine c_block ?_; obtain ⟨m198, hF, hR200⟩ := bd hF
  refine c_cut (fun a' w' => ∃ (G196 : GH), G166.le G196 ∧ Env a' 33 [(0, .pointer (some ⟨b4, 0, none⟩)), (3, .int .i64 (i116 : Int)), (4, .bool m198), (5, .int .i64 (i180 : Int))] ∧ Inv w0 G0 [] G196 [] w') ?_ ?_
  rotate_left
  · clear hE hI; rintro a w ⟨G196, hg199, hE, hI⟩; clear hF; have hF := hR200; clear hR200; refine xB ?_; refine xT ?_; refine c_reg ?_; refine run tt_ok 3 hE rfl fun a hE => ?_; refine c_end ?_; refine xT ?_; cases hF
    have hE := hE.setI (t := 5) rfl (w64_succ hlt185 (len_le h10))
    exact ⟨rest182.length, Nat.lt_succ_self _, i180 + 1, rest182, _, G196, rfl, hlt185, hd183, hO170, (hg172.trans hg199), hE.keep ⟨rfl, rfl, rfl, rfl, trivial⟩, hI⟩
  refine c_reg ?_; refine run tt_ok 2 hE rfl fun a hE => ?_; rcases bool_or s168 with hb201 | hb201; rotate_left
  · replace hF := cf hb201 hF; have hE := hE.tr (t := 25) rfl hb201; clear hb201; refine run tt_ok 6 hE rfl fun a hE => ?_; refine c_end ?_; refine xT ?_; cases hF
    exact ⟨G166, (GH.le.refl _), hE.keep ⟨rfl, rfl, rfl, rfl, trivial⟩, hI⟩
  replace hF := ct hb201 hF; have hE := hE.tr (t := 25) rfl hb201; clear hb201; refine run tt_ok 3 hE rfl fun a hE => ?_; obtain ⟨y202, hy203, hF⟩ := bd hF
  refine s_call0 cl_50 hI hE rfl rfl ((ref03_Lattice_Leq.ok k) _ _ _ _ hy203 _ _ _ hI.pass0 (h2.mono (hg110.trans hg172))) rfl ?_; clear hE hI; rintro a w _ G205 _ ⟨rfl, rfl⟩ hg204 hI hE
  refine run tt_ok 2 hE rfl fun a hE => ?_; refine c_end ?_; refine xT ?_; cases hF; exact ⟨G205, hg204, hE.keep ⟨rfl, rfl, rfl, rfl, trivial⟩, hI⟩

theorem cl_6 : Callable Try.prog 6 := ⟨_, Try.func6, by kernel_rfl, by kernel_rfl⟩

def law03_LatticeMakes.C (s : (List ByteArray) → (List TPair) → ByteArray → Option Bool) : Prop := ∀ (p0 : List ByteArray) (p1 : List TPair) (p2 : ByteArray) (r : Bool), s p0 p1 p2 = some r → ∀ (w0 : World) (G0 : GH) (A1 : Option Addr) (c2 : Nat) (A4 : Option Addr) (c5 : Nat), Inv w0 G0 [] G0 [] w0 → (Sl G0 A1 c2 1 (p0.map D.str)) → (Sl G0 A4 c5 2 (p1.map TPair.d)) → Calls Try.prog 6 #[.slice A1 p0.length c2, .slice A4 p1.length c5, .string p2] w0 (Ret w0 G0 [] fun G' L' v => L' = [] ∧ v = .bool r)

theorem law03_LatticeMakes.ok (k : Nat) : law03_LatticeMakes.C (law03_LatticeMakes k) := by
  intro p0 p1 p2 r hF w0 G0 A1 c2 A4 c5 hI h3 h6
  unfold law03_LatticeMakes at hF
  refine calls_of_wp Try.func6 rfl ?_
  have hE : Env _ 93 [(0, .slice A1 p0.length c2), (1, .slice A4 p1.length c5), (2, .string p2)] := Env.start ⟨[.slice A1 p0.length c2, .slice A4 p1.length c5, .string p2]⟩ 90
  refine c_seq ?_; refine c_reg ?_; refine run tt_ok 1 hE rfl fun a hE => ?_; refine c_end ?_; refine xT ?_; refine c_seq ?_; refine c_seq ?_; refine c_reg ?_; refine run tt_ok 2 hE rfl fun a hE => ?_
  obtain ⟨y8, hy9, hF⟩ := bd hF; refine s_call0 cl_10 hI hE rfl rfl ((law03_Few.ok k) _ _ _ hy9 _ _ _ _ _ _ hI.pass0 h3 h6) rfl ?_; clear hE hI; rintro a w _ G11 _ ⟨rfl, rfl⟩ hg10 hI hE
  refine run tt_ok 1 hE rfl fun a hE => ?_; refine c_end ?_; refine xT ?_; refine c_if (b := !y8) hE rfl (fun hb239 => ?_) (fun hb239 => ?_)
  · replace hF := ct hb239 hF; refine c_seq ?_; refine c_reg ?_; obtain ⟨y13, hy14, hF⟩ := bd hF; refine s_call0 cl_11 hI hE rfl rfl ((law03_alive.ok k) _ hy14 _ _  hI.pass0 ) rfl ?_; clear hE hI
    rintro a w _ G16 _ ⟨rfl, rfl⟩ hg15 hI hE; refine run tt_ok 1 hE rfl fun a hE => ?_; refine c_end ?_; refine xT ?_; refine c_ret ?_; refine xTr ?_; cases hF; refine r_ret (v := _) hE rfl ⟨_, _, _, rfl, hI.nil, rfl, rfl⟩
  replace hF := cf hb239 hF; refine c_skip ?_; refine xT ?_; refine c_seq ?_; refine c_reg ?_; refine run tt_ok 2 hE rfl fun a hE => ?_; obtain ⟨y21, hy22, hF⟩ := bd hF
  refine s_call0 cl_12 hI hE rfl rfl ((lattice_New.ok k) _ _ _ hy22 _ _ _ _ _ _ hI.pass0 (h3.mono hg10) (h6.mono hg10)) rfl ?_; clear hE hI; rintro a w _ G24 _ ⟨rfl, A25, rfl, h26⟩ hg23 hI hE
  refine run tt_ok 5 hE rfl fun a hE => ?_; refine c_end ?_; refine xT ?_; refine c_seq ?_; refine c_reg ?_; refine run tt_ok 2 hE rfl fun a hE => ?_; obtain ⟨y31, hy32, hF⟩ := bd hF
  refine s_call0 cl_18 hI hE rfl rfl ((ref03_New.ok k) _ _ _ hy32 _ _ _ _ _ _ hI.pass0 (h3.mono (hg10.trans hg23)) (h6.mono (hg10.trans hg23))) rfl ?_; clear hE hI; rintro a w _ G34 _ ⟨rfl, A35, rfl, h36⟩ hg33 hI hE
  refine run tt_ok 5 hE rfl fun a hE => ?_; refine c_end ?_; refine xT ?_; refine c_seq ?_; refine c_seq ?_; obtain ⟨m40, hF, hR42⟩ := bd hF
  refine c_cut (fun a' w' => ∃ (G38 : GH), G34.le G38 ∧ Env a' 93 [(0, .slice A1 p0.length c2), (2, .string p2), (7, .pointer A25), (9, .pointer A35), (40, .bool m40)] ∧ Inv w0 G0 [] G38 [] w') ?_ ?_
  · refine c_reg ?_; refine run tt_ok 4 hE rfl fun a hE => ?_; rcases bool_or (!decide (y21.2 = y31.2)) with hb238 | hb238
    · replace hF := ct hb238 hF; have hE := hE.tr (t := 34) rfl hb238; clear hb238; refine run tt_ok 6 hE rfl fun a hE => ?_; refine c_end ?_; refine xT ?_; cases hF
      exact ⟨G34, (GH.le.refl _), hE.keep ⟨rfl, rfl, rfl, rfl, rfl, trivial⟩, hI⟩
    replace hF := cf hb238 hF; have hE := hE.tr (t := 34) rfl hb238; clear hb238; refine run tt_ok 1 hE rfl fun a hE => ?_; refine s_rt hI hE rfl (f_pnil up_28 (h26.mono hg33) rfl rfl) rfl fun a hE => ?_
    refine run tt_ok 1 hE rfl fun a hE => ?_; refine s_rt hI hE rfl (f_pnil up_36 h36 rfl rfl) rfl fun a hE => ?_; refine s_rt hI hE rfl (f_bne ub_4 rfl rfl) rfl fun a hE => ?_; refine run tt_ok 1 hE rfl fun a hE => ?_
    refine c_end ?_; refine xT ?_; cases hF; exact ⟨G34, (GH.le.refl _), hE.keep ⟨rfl, rfl, rfl, rfl, rfl, trivial⟩, hI⟩
  clear hE hI; rintro a w ⟨G38, hg41, hE, hI⟩; clear hF; have hF := hR42; clear hR42; refine xT ?_; refine c_if (b := m40) hE rfl (fun hb237 => ?_) (fun hb237 => ?_)
  · replace hF := ct hb237 hF; refine c_seq ?_; refine c_reg ?_; refine run tt_ok 1 hE rfl fun a hE => ?_; refine c_end ?_; refine xT ?_; refine c_ret ?_; refine xTr ?_; cases hF
    refine r_ret (v := _) hE rfl ⟨_, _, _, rfl, hI.nil, rfl, rfl⟩
  replace hF := cf hb237 hF; refine c_skip ?_; refine xT ?_; refine c_seq ?_; refine c_seq ?_; refine c_reg ?_; refine run tt_ok 1 hE rfl fun a hE => ?_
  refine s_rt hI hE rfl (f_pnil up_36 (h36.mono hg41) rfl rfl) rfl fun a hE => ?_; refine c_end ?_; refine xT ?_; refine c_if (b := y31.1.isNone) hE rfl (fun hb236 => ?_) (fun hb236 => ?_)
  · replace hF := ct hb236 hF; refine c_seq ?_; refine c_reg ?_; obtain ⟨y45, hy46, hF⟩ := bd hF; refine s_call0 cl_11 hI hE rfl rfl ((law03_alive.ok k) _ hy46 _ _  hI.pass0 ) rfl ?_; clear hE hI
    rintro a w _ G48 _ ⟨rfl, rfl⟩ hg47 hI hE; refine run tt_ok 1 hE rfl fun a hE => ?_; refine c_end ?_; refine xT ?_; refine c_ret ?_; refine xTr ?_; cases hF; refine r_ret (v := _) hE rfl ⟨_, _, _, rfl, hI.nil, rfl, rfl⟩
  replace hF := cf hb236 hF; refine c_skip ?_; refine xT ?_; refine c_seq ?_; refine c_reg ?_; refine run tt_ok 2 hE rfl fun a hE => ?_; obtain ⟨y51, hy52, hF⟩ := bd hF
  refine s_call0 cl_19 hI hE rfl rfl ((lattice_Lattice_Find.ok k) _ _ _ hy52 _ _ _ hI.pass0 (h26.mono (hg33.trans hg41))) rfl ?_; clear hE hI; rintro a w _ G54 _ ⟨rfl, rfl⟩ hg53 hI hE
  refine run tt_ok 5 hE rfl fun a hE => ?_; refine c_end ?_; refine xT ?_; refine c_seq ?_; refine c_reg ?_; refine run tt_ok 2 hE rfl fun a hE => ?_; obtain ⟨y56, hy57, hF⟩ := bd hF
  refine s_call0 cl_20 hI hE rfl rfl ((ref03_Find.ok k) _ _ _ hy57 _ _ _ _ hI.pass0 (h3.mono ((((hg10.trans hg23).trans hg33).trans hg41).trans hg53))) rfl ?_; clear hE hI; rintro a w _ G59 _ ⟨rfl, rfl⟩ hg58 hI hE
  refine run tt_ok 1 hE rfl fun a hE => ?_; refine c_end ?_; refine xT ?_; refine c_seq ?_; obtain ⟨m150, hF, hR152⟩ := bd hF
  refine c_cut (fun a' w' => ∃ (G148 : GH), G59.le G148 ∧ Env a' 93 [(6, .bool m150)] ∧ Inv w0 G0 [] G148 [] w') ?_ ?_; rotate_left
  · clear hE hI; rintro a w ⟨G148, hg151, hE, hI⟩; clear hF; have hF := hR152; clear hR152; refine xT ?_; refine c_ret ?_; cases hF; refine r_ret (v := _) hE rfl ⟨_, _, _, rfl, hI.nil, rfl, rfl⟩
  refine c_reg ?_; refine run tt_ok 1 hE rfl fun a hE => ?_; obtain ⟨y153, hy154, hF⟩ := bd hF
  refine s_call0 cl_22 hI hE rfl rfl ((lattice_Lattice_Levels.ok k) _ _ hy154 _ _ _ hI.pass0 (h26.mono (((hg33.trans hg41).trans hg53).trans hg58))) rfl ?_; clear hE hI
  rintro a w _ G156 _ ⟨rfl, A157, c158, rfl, h159⟩ hg155 hI hE; refine run tt_ok 1 hE rfl fun a hE => ?_; obtain ⟨y160, hy161, hF⟩ := bd hF
  refine s_call0 cl_21 hI hE rfl rfl ((ref03_Texts.ok k) _ _ _ hy161 _ _ _ _ _ _ hI.pass0 h159 (h3.mono ((((((hg10.trans hg23).trans hg33).trans hg41).trans hg53).trans hg58).trans hg155))) rfl ?_; clear hE hI
  rintro a w _ G163 _ ⟨rfl, rfl⟩ hg162 hI hE; refine run tt_ok 1 hE rfl fun a hE => ?_; rcases bool_or y160 with hb164 | hb164; rotate_left
  · replace hF := cf hb164 hF; have hE := hE.tr (t := 57) rfl hb164; clear hb164; refine run tt_ok 36 hE rfl fun a hE => ?_; refine c_end ?_; refine xT ?_; cases hF
    exact ⟨G163, (hg155.trans hg162), hE.keep ⟨rfl, trivial⟩, hI⟩
  replace hF := ct hb164 hF; have hE := hE.tr (t := 57) rfl hb164; clear hb164; refine run tt_ok 3 hE rfl fun a hE => ?_; refine s_rt hI hE rfl (f_beq ub_4 rfl rfl) rfl fun a hE => ?_
  refine run tt_ok 2 hE rfl fun a hE => ?_; rcases bool_or (y51.2 == (decide ((0 : Int) ≤ y56))) with hb165 | hb165; rotate_left
  · replace hF := cf hb165 hF; have hE := hE.tr (t := 63) rfl hb165; clear hb165; refine run tt_ok 30 hE rfl fun a hE => ?_; refine c_end ?_; refine xT ?_; cases hF
    exact ⟨G163, (hg155.trans hg162), hE.keep ⟨rfl, trivial⟩, hI⟩
  replace hF := ct hb165 hF; have hE := hE.tr (t := 63) rfl hb165; clear hb165; refine run tt_ok 3 hE rfl fun a hE => ?_; rcases bool_or (decide (y56 < (0 : Int))) with hb166 | hb166; rotate_left
  · replace hF := cf hb166 hF; have hE := hE.tr (t := 66) rfl hb166; clear hb166; refine run tt_ok 10 hE rfl fun a hE => ?_; rcases bool_or (decide (y56 = y51.1)) with hb213 | hb213; rotate_left
    · replace hF := cf hb213 hF; have hE := hE.tr (t := 76) rfl hb213; clear hb213; refine run tt_ok 17 hE rfl fun a hE => ?_; refine c_end ?_; refine xT ?_; cases hF
      exact ⟨G163, (hg155.trans hg162), hE.keep ⟨rfl, trivial⟩, hI⟩
    replace hF := ct hb213 hF; have hE := hE.tr (t := 76) rfl hb213; clear hb213; refine run tt_ok 1 hE rfl fun a hE => ?_; obtain ⟨y214, hy215, hF⟩ := bd hF
    refine s_call0 cl_16 hI hE rfl rfl ((lattice_Lattice_Bottom.ok k) _ _ hy215 _ _ _ hI.pass0 (h26.mono (((((hg33.trans hg41).trans hg53).trans hg58).trans hg155).trans hg162))) rfl ?_; clear hE hI
    rintro a w _ G217 _ ⟨rfl, rfl⟩ hg216 hI hE; refine run tt_ok 1 hE rfl fun a hE => ?_; obtain ⟨y218, hy219, hF⟩ := bd hF
    refine s_call0 cl_23 hI hE rfl rfl ((ref03_Lattice_Bottom.ok k) _ _ hy219 _ _ _ hI.pass0 (h36.mono (((((hg41.trans hg53).trans hg58).trans hg155).trans hg162).trans hg216))) rfl ?_; clear hE hI
    rintro a w _ G221 _ ⟨rfl, rfl⟩ hg220 hI hE; refine run tt_ok 3 hE rfl fun a hE => ?_; rcases bool_or (decide (y214 = y218)) with hb222 | hb222; rotate_left
    · replace hF := cf hb222 hF; have hE := hE.tr (t := 83) rfl hb222; clear hb222; refine run tt_ok 10 hE rfl fun a hE => ?_; refine c_end ?_; refine xT ?_; cases hF
      exact ⟨G221, (((hg155.trans hg162).trans hg216).trans hg220), hE.keep ⟨rfl, trivial⟩, hI⟩
    replace hF := ct hb222 hF; have hE := hE.tr (t := 83) rfl hb222; clear hb222; refine run tt_ok 1 hE rfl fun a hE => ?_; obtain ⟨y223, hy224, hF⟩ := bd hF
    refine s_call0 cl_17 hI hE rfl rfl ((lattice_Lattice_Top.ok k) _ _ hy224 _ _ _ hI.pass0 (h26.mono (((((((hg33.trans hg41).trans hg53).trans hg58).trans hg155).trans hg162).trans hg216).trans hg220))) rfl ?_; clear hE hI
    rintro a w _ G226 _ ⟨rfl, rfl⟩ hg225 hI hE; refine run tt_ok 1 hE rfl fun a hE => ?_; obtain ⟨y227, hy228, hF⟩ := bd hF
    refine s_call0 cl_24 hI hE rfl rfl ((ref03_Lattice_Top.ok k) _ _ hy228 _ _ _ hI.pass0 (h36.mono (((((((hg41.trans hg53).trans hg58).trans hg155).trans hg162).trans hg216).trans hg220).trans hg225))) rfl ?_; clear hE hI
    rintro a w _ G230 _ ⟨rfl, rfl⟩ hg229 hI hE; refine run tt_ok 3 hE rfl fun a hE => ?_; rcases bool_or (decide (y223 = y227)) with hb231 | hb231; rotate_left
    · replace hF := cf hb231 hF; have hE := hE.tr (t := 90) rfl hb231; clear hb231; refine run tt_ok 3 hE rfl fun a hE => ?_; refine c_end ?_; refine xT ?_; cases hF
      exact ⟨G230, (((((hg155.trans hg162).trans hg216).trans hg220).trans hg225).trans hg229), hE.keep ⟨rfl, trivial⟩, hI⟩
    replace hF := ct hb231 hF; have hE := hE.tr (t := 90) rfl hb231; clear hb231; obtain ⟨y232, hy233, hF⟩ := bd hF; refine s_call0 cl_11 hI hE rfl rfl ((law03_alive.ok k) _ hy233 _ _  hI.pass0 ) rfl ?_; clear hE hI
    rintro a w _ G235 _ ⟨rfl, rfl⟩ hg234 hI hE; refine run tt_ok 2 hE rfl fun a hE => ?_; refine c_end ?_; refine xT ?_; cases hF
    exact ⟨G235, ((((((hg155.trans hg162).trans hg216).trans hg220).trans hg225).trans hg229).trans hg234), hE.keep ⟨rfl, trivial⟩, hI⟩
  replace hF := ct hb166 hF; have hE := hE.tr (t := 66) rfl hb166; clear hb166; refine run tt_ok 4 hE rfl fun a hE => ?_; rcases bool_or (decide (y51.1 = (0 : Int))) with hb167 | hb167
  · replace hF := ct hb167 hF; have hE := hE.tr (t := 70) rfl hb167; clear hb167; refine run tt_ok 7 hE rfl fun a hE => ?_; obtain ⟨y168, hy169, hF⟩ := bd hF
    refine s_call0 cl_16 hI hE rfl rfl ((lattice_Lattice_Bottom.ok k) _ _ hy169 _ _ _ hI.pass0 (h26.mono (((((hg33.trans hg41).trans hg53).trans hg58).trans hg155).trans hg162))) rfl ?_; clear hE hI
    rintro a w _ G171 _ ⟨rfl, rfl⟩ hg170 hI hE; refine run tt_ok 1 hE rfl fun a hE => ?_; obtain ⟨y172, hy173, hF⟩ := bd hF
    refine s_call0 cl_23 hI hE rfl rfl ((ref03_Lattice_Bottom.ok k) _ _ hy173 _ _ _ hI.pass0 (h36.mono (((((hg41.trans hg53).trans hg58).trans hg155).trans hg162).trans hg170))) rfl ?_; clear hE hI
    rintro a w _ G175 _ ⟨rfl, rfl⟩ hg174 hI hE; refine run tt_ok 3 hE rfl fun a hE => ?_; rcases bool_or (decide (y168 = y172)) with hb176 | hb176; rotate_left
    · replace hF := cf hb176 hF; have hE := hE.tr (t := 83) rfl hb176; clear hb176; refine run tt_ok 10 hE rfl fun a hE => ?_; refine c_end ?_; refine xT ?_; cases hF
      exact ⟨G175, (((hg155.trans hg162).trans hg170).trans hg174), hE.keep ⟨rfl, trivial⟩, hI⟩
    replace hF := ct hb176 hF; have hE := hE.tr (t := 83) rfl hb176; clear hb176; refine run tt_ok 1 hE rfl fun a hE => ?_; obtain ⟨y177, hy178, hF⟩ := bd hF
    refine s_call0 cl_17 hI hE rfl rfl ((lattice_Lattice_Top.ok k) _ _ hy178 _ _ _ hI.pass0 (h26.mono (((((((hg33.trans hg41).trans hg53).trans hg58).trans hg155).trans hg162).trans hg170).trans hg174))) rfl ?_; clear hE hI
    rintro a w _ G180 _ ⟨rfl, rfl⟩ hg179 hI hE; refine run tt_ok 1 hE rfl fun a hE => ?_; obtain ⟨y181, hy182, hF⟩ := bd hF
    refine s_call0 cl_24 hI hE rfl rfl ((ref03_Lattice_Top.ok k) _ _ hy182 _ _ _ hI.pass0 (h36.mono (((((((hg41.trans hg53).trans hg58).trans hg155).trans hg162).trans hg170).trans hg174).trans hg179))) rfl ?_; clear hE hI
    rintro a w _ G184 _ ⟨rfl, rfl⟩ hg183 hI hE; refine run tt_ok 3 hE rfl fun a hE => ?_; rcases bool_or (decide (y177 = y181)) with hb185 | hb185; rotate_left
    · replace hF := cf hb185 hF; have hE := hE.tr (t := 90) rfl hb185; clear hb185; refine run tt_ok 3 hE rfl fun a hE => ?_; refine c_end ?_; refine xT ?_; cases hF
      exact ⟨G184, (((((hg155.trans hg162).trans hg170).trans hg174).trans hg179).trans hg183), hE.keep ⟨rfl, trivial⟩, hI⟩
    replace hF := ct hb185 hF; have hE := hE.tr (t := 90) rfl hb185; clear hb185; obtain ⟨y186, hy187, hF⟩ := bd hF; refine s_call0 cl_11 hI hE rfl rfl ((law03_alive.ok k) _ hy187 _ _  hI.pass0 ) rfl ?_; clear hE hI
    rintro a w _ G189 _ ⟨rfl, rfl⟩ hg188 hI hE; refine run tt_ok 2 hE rfl fun a hE => ?_; refine c_end ?_; refine xT ?_; cases hF
    exact ⟨G189, ((((((hg155.trans hg162).trans hg170).trans hg174).trans hg179).trans hg183).trans hg188), hE.keep ⟨rfl, trivial⟩, hI⟩
  replace hF := cf hb167 hF; have hE := hE.tr (t := 70) rfl hb167; clear hb167; refine run tt_ok 6 hE rfl fun a hE => ?_; rcases bool_or (decide (y56 = y51.1)) with hb190 | hb190; rotate_left
  · replace hF := cf hb190 hF; have hE := hE.tr (t := 76) rfl hb190; clear hb190; refine run tt_ok 17 hE rfl fun a hE => ?_; refine c_end ?_; refine xT ?_; cases hF
    exact ⟨G163, (hg155.trans hg162), hE.keep ⟨rfl, trivial⟩, hI⟩
  replace hF := ct hb190 hF; have hE := hE.tr (t := 76) rfl hb190; clear hb190; refine run tt_ok 1 hE rfl fun a hE => ?_; obtain ⟨y191, hy192, hF⟩ := bd hF
  refine s_call0 cl_16 hI hE rfl rfl ((lattice_Lattice_Bottom.ok k) _ _ hy192 _ _ _ hI.pass0 (h26.mono (((((hg33.trans hg41).trans hg53).trans hg58).trans hg155).trans hg162))) rfl ?_; clear hE hI
  rintro a w _ G194 _ ⟨rfl, rfl⟩ hg193 hI hE; refine run tt_ok 1 hE rfl fun a hE => ?_; obtain ⟨y195, hy196, hF⟩ := bd hF
  refine s_call0 cl_23 hI hE rfl rfl ((ref03_Lattice_Bottom.ok k) _ _ hy196 _ _ _ hI.pass0 (h36.mono (((((hg41.trans hg53).trans hg58).trans hg155).trans hg162).trans hg193))) rfl ?_; clear hE hI
  rintro a w _ G198 _ ⟨rfl, rfl⟩ hg197 hI hE; refine run tt_ok 3 hE rfl fun a hE => ?_; rcases bool_or (decide (y191 = y195)) with hb199 | hb199; rotate_left
  · replace hF := cf hb199 hF; have hE := hE.tr (t := 83) rfl hb199; clear hb199; refine run tt_ok 10 hE rfl fun a hE => ?_; refine c_end ?_; refine xT ?_; cases hF
    exact ⟨G198, (((hg155.trans hg162).trans hg193).trans hg197), hE.keep ⟨rfl, trivial⟩, hI⟩
  replace hF := ct hb199 hF; have hE := hE.tr (t := 83) rfl hb199; clear hb199; refine run tt_ok 1 hE rfl fun a hE => ?_; obtain ⟨y200, hy201, hF⟩ := bd hF
  refine s_call0 cl_17 hI hE rfl rfl ((lattice_Lattice_Top.ok k) _ _ hy201 _ _ _ hI.pass0 (h26.mono (((((((hg33.trans hg41).trans hg53).trans hg58).trans hg155).trans hg162).trans hg193).trans hg197))) rfl ?_; clear hE hI
  rintro a w _ G203 _ ⟨rfl, rfl⟩ hg202 hI hE; refine run tt_ok 1 hE rfl fun a hE => ?_; obtain ⟨y204, hy205, hF⟩ := bd hF
  refine s_call0 cl_24 hI hE rfl rfl ((ref03_Lattice_Top.ok k) _ _ hy205 _ _ _ hI.pass0 (h36.mono (((((((hg41.trans hg53).trans hg58).trans hg155).trans hg162).trans hg193).trans hg197).trans hg202))) rfl ?_; clear hE hI
  rintro a w _ G207 _ ⟨rfl, rfl⟩ hg206 hI hE; refine run tt_ok 3 hE rfl fun a hE => ?_; rcases bool_or (decide (y200 = y204)) with hb208 | hb208; rotate_left
  · replace hF := cf hb208 hF; have hE := hE.tr (t := 90) rfl hb208; clear hb208; refine run tt_ok 3 hE rfl fun a hE => ?_; refine c_end ?_; refine xT ?_; cases hF
    exact ⟨G207, (((((hg155.trans hg162).trans hg193).trans hg197).trans hg202).trans hg206), hE.keep ⟨rfl, trivial⟩, hI⟩
  replace hF := ct hb208 hF; have hE := hE.tr (t := 90) rfl hb208; clear hb208; obtain ⟨y209, hy210, hF⟩ := bd hF; refine s_call0 cl_11 hI hE rfl rfl ((law03_alive.ok k) _ hy210 _ _  hI.pass0 ) rfl ?_; clear hE hI
  rintro a w _ G212 _ ⟨rfl, rfl⟩ hg211 hI hE; refine run tt_ok 2 hE rfl fun a hE => ?_; refine c_end ?_; refine xT ?_; cases hF
  exact ⟨G212, ((((((hg155.trans hg162).trans hg193).trans hg197).trans hg202).trans hg206).trans hg211), hE.keep ⟨rfl, trivial⟩, hI⟩
end Go.Proofs.Ytliaopbgkcdibaa
