/- The contracts: what the machine does at a call is what the plain function says. Written by mk.py. -/
import Derived.Test.YtliaopbgkcdibaaDoorCgE0
import Derived.Test.YtliaopbgkcdibaaDoorCgE2
import Derived.Test.YtliaopbgkcdibaaDoorCgE3
import Derived.Test.YtliaopbgkcdibaaDoorCgE4
set_option linter.unusedVariables false
set_option linter.unusedSimpArgs false
set_option maxRecDepth 100000
namespace Go.Proofs.YtliaopbgkcdibaaDoor
open Go.RowKit
theorem cl_16 : Callable Tryd.prog 16 := ⟨_, Tryd.func16, by kernel_rfl, by kernel_rfl⟩

def lattice_Lattice_Above.C (s : (Option Tlattice_Lattice) → Int → Option (List Int)) : Prop := ∀ (p0 : Option Tlattice_Lattice) (p1 : Int) (r : (List Int)), s p0 p1 = some r → ∀ (w0 : World) (G0 : GH) (A1 : Option Addr), Inv w0 G0 [] G0 [] w0 → (Gl0 G0) → (Pt G0 A1 54 Tlattice_Lattice.d p0) → Calls Tryd.prog 16 #[.pointer A1, .int .i64 p1] w0 (Ret w0 G0 [] fun G' L' v => L' = [] ∧ ∃ A0 c0, v = .slice A0 r.length c0 ∧ Sl G' A0 c0 1 (r.map (D.int .i64)))

theorem lattice_Lattice_Above.ok (k : Nat) : lattice_Lattice_Above.C (lattice_Lattice_Above k) := by
  intro p0 p1 r hF w0 G0 A1 hI hGl0 h2
  unfold lattice_Lattice_Above at hF
  refine calls_of_wp Tryd.func16 rfl ?_
  have hE : Env _ 30 [(0, .pointer A1), (1, .int .i64 p1)] := Env.start ⟨[.pointer A1, .int .i64 p1]⟩ 28
  refine c_seq ?_; refine c_reg ?_; refine run tt_ok 1 hE rfl fun a hE => ?_; refine c_end ?_; refine xT ?_; refine c_seq ?_; refine c_seq ?_; refine c_reg ?_; refine run tt_ok 2 hE rfl fun a hE => ?_
  obtain ⟨y4, hy5, hF⟩ := bd hF; refine s_call0 cl_28 hI hE rfl rfl ((lattice_Lattice_is.ok k) _ _ _ hy5 _ _ _ hI.pass0 h2) rfl ?_; clear hE hI; rintro a w _ G7 _ ⟨rfl, rfl⟩ hg6 hI hE
  refine run tt_ok 1 hE rfl fun a hE => ?_; refine c_end ?_; refine xT ?_; refine c_if (b := !y4) hE rfl (fun hb172 => ?_) (fun hb172 => ?_)
  · replace hF := ct hb172 hF; refine c_seq ?_; refine c_reg ?_; refine run tt_ok 1 hE rfl fun a hE => ?_; refine c_end ?_; refine xT ?_; refine c_ret ?_; refine xTr ?_; cases hF
    refine r_ret (v := _) hE rfl ⟨_, _, _, rfl, hI.nil, rfl, none, 0, rfl, (Sl.nil _ _ _ _ (Nat.zero_le _))⟩
  replace hF := cf hb172 hF; refine c_skip ?_; refine xT ?_; refine c_seq ?_; refine c_reg ?_; refine run tt_ok 1 hE rfl fun a hE => ?_; refine c_end ?_; refine xT ?_; refine c_seq ?_; refine c_seq ?_; refine c_reg ?_
  refine run tt_ok 1 hE rfl fun a hE => ?_; rcases ((h2.mono hg6)).cases with ⟨hp15, rfl⟩ | ⟨y13, b14, cs, hp15, rfl, hR16, hA17⟩
  · cases op_n hp15 hF
  replace hF := op_s hp15 hF; obtain ⟨A18, c19, A21, A23, c24, A26, c27, rfl, h20, h22, h25, h28⟩ := Tlattice_Lattice.inv.1 hR16; refine run tt_ok 2 hE rfl fun a hE => ?_
  refine s_rt hI hE rfl (f_loadG tt_ok hA17 2 rfl rfl rfl rfl) rfl fun a hE => ?_; refine run tt_ok 1 hE rfl fun a hE => ?_; obtain ⟨y33, hy34, hF⟩ := bd hF
  obtain ⟨b29, o30, cs, hb35, hR32, hA31⟩ := sl_at h25 (getO_some hy34).1 (getO_some hy34).2; obtain rfl := rep_int.1 hR32; refine s_rt hI hE rfl (f_idx tt_ok hb35 rfl rfl rfl) rfl fun a hE => ?_
  refine s_rt hI hE rfl (f_loadG tt_ok hA31 0 rfl rfl rfl rfl) rfl fun a hE => ?_; refine run tt_ok 1 hE rfl fun a hE => ?_; refine c_end ?_; refine xT ?_; have hI := hI.nilrow 3 1
  have hR60 : RL G7 1 (([] : List Int).map (D.int .i64)) [] := RL.nil; obtain ⟨o129, hO130, hK131⟩ := bd hF; clear hF
  refine c_cut (fun a' w' => ∃ (s133 : (List Int) × Int) (G134 : GH) (A136 : Option Addr) (c137 : Nat) (cs138 : List Value), o129 = .go s133 ∧ G7.le G134 ∧ Env a' 30 [(5, .slice A136 s133.1.length c137)] ∧ Inv w0 G0 [] G134 [.row (.slice A136 s133.1.length c137) 3 1 s133.1.length cs138] w' ∧ RL G134 1 (s133.1.map (D.int .i64)) cs138) ?_ ?_
  rotate_left
  · clear hE hI hO130; rintro a w ⟨s133, G134, A136, c137, cs138, rfl, hg141, hE, hI, hR139⟩; have hF := lrk_go hK131; clear hK131; refine xT ?_; refine c_seq ?_; refine c_reg ?_; refine run tt_ok 2 hE rfl fun a hE => ?_
    refine c_end ?_; refine xT ?_; obtain ⟨G142, hg143, hI, h144⟩ := (hI.front 0).giveR (xs := s133.1.map (D.int .i64)) (by simp) hR139; refine c_ret ?_; cases hF
    refine r_ret (v := _) hE rfl ⟨_, _, _, rfl, hI.nil, rfl, A136, c137, rfl, h144⟩
  refine c_block ?_
  refine wp_loop_ghost (fun n' a' w' => ∃ (s128 : (List Int) × Int) (G121 : GH) (A123 : Option Addr) (c124 : Nat) (cs125 : List Value), whileL (lattice_Lattice_Above.b0 k) n' s128 = some o129 ∧ G7.le G121 ∧ Env a' 30 [(5, .slice A123 s128.1.length c124), (6, .int .u32 s128.2)] ∧ Inv w0 G0 [] G121 [.row (.slice A123 s128.1.length c124) 3 1 s128.1.length cs125] w' ∧ RL G121 1 (s128.1.map (D.int .i64)) cs125) _ ⟨_, G7, none, 0, [], hO130, (GH.le.refl _), hE.keep ⟨rfl, rfl, trivial⟩, hI, hR60⟩ ?_
  clear hE hI hO130; rintro m146 a w ⟨s128, G121, A123, c124, cs125, hO130, hg132, hE, hI, hR126⟩; rcases m146 with _ | m146
  · cases hO130
  obtain ⟨stp145, hF, hO130⟩ := while_step hO130; unfold lattice_Lattice_Above.b0 at hF; refine c_seq ?_; refine c_seq ?_; refine c_reg ?_; refine run tt_ok 2 hE rfl fun a hE => ?_; refine c_end ?_; refine xT ?_
  refine c_if (b := !decide (s128.2 = (0 : Int))) hE rfl (fun hb171 => ?_) (fun hb171 => ?_); rotate_left
  · replace hF := cf hb171 hF; refine c_exit ?_; refine xTe ?_; refine xTe ?_; refine xBh ?_; refine xT ?_; cases hF; obtain rfl := wnxt_brk hO130
    exact ⟨_, G121, A123, c124, cs125, rfl, hg132, hE.keep ⟨rfl, trivial⟩, hI, hR126⟩
  replace hF := ct hb171 hF; refine c_skip ?_; refine xT ?_; refine c_seq ?_; refine c_block ?_; refine c_reg ?_; refine run tt_ok 2 hE rfl fun a hE => ?_; obtain ⟨y159, hy160, hF⟩ := bd hF
  refine s_call0 cl_31 hI hE rfl rfl ((math_bits_TrailingZeros32.ok k) _ _ hy160 _ _  hI.pass0 (hGl0.mono (hg6.trans hg132))) rfl ?_; clear hE hI; rintro a w _ G162 _ ⟨rfl, rfl⟩ hg161 hI hE
  refine s_bsl ai_36 hI hE rfl rfl rfl rfl rfl fun a w b163 hE hI => ?_; have hR165 : RL G162 1 ([y159].map (D.int .i64)) [.int .i64 y159] := (RL.cons (rep_int.2 rfl) rfl RL.nil); obtain ⟨_, hb166, hF⟩ := bd hF
  refine s_appO (f := (D.int .i64)) (xs := s128.1) (ys := [y159]) ai_36 1 0 hI hE rfl rfl rfl hR165 rfl rfl (lim_le hb166) rfl fun a w A167 c168 hE hI => ?_; have hR170 := RL.appm (hR126.mono hg161) hR165
  refine run tt_ok 1 hE rfl fun a hE => ?_; refine c_end ?_; refine xB ?_; refine xT ?_; refine c_reg ?_; refine run tt_ok 5 hE rfl fun a hE => ?_; refine c_end ?_; refine xT ?_; cases hF
  exact ⟨m146, Nat.lt_succ_self _, _, G162, A167, c168, (cs125 ++ [.int .i64 y159]), hO130, (hg132.trans hg161), hE.keep ⟨rfl, rfl, trivial⟩, (hI.dropN 1 rfl), hR170⟩

theorem cl_17 : Callable Tryd.prog 17 := ⟨_, Tryd.func17, by kernel_rfl, by kernel_rfl⟩

def ref03_Lattice_Above.C (s : (Option Tref03_Lattice) → Int → Option (List Int)) : Prop := ∀ (p0 : Option Tref03_Lattice) (p1 : Int) (r : (List Int)), s p0 p1 = some r → ∀ (w0 : World) (G0 : GH) (A1 : Option Addr), Inv w0 G0 [] G0 [] w0 → (Pt G0 A1 60 Tref03_Lattice.d p0) → Calls Tryd.prog 17 #[.pointer A1, .int .i64 p1] w0 (Ret w0 G0 [] fun G' L' v => L' = [] ∧ ∃ A0 c0, v = .slice A0 r.length c0 ∧ Sl G' A0 c0 1 (r.map (D.int .i64)))

theorem ref03_Lattice_Above.ok (k : Nat) : ref03_Lattice_Above.C (ref03_Lattice_Above k) := by
  intro p0 p1 r hF w0 G0 A1 hI h2
  unfold ref03_Lattice_Above at hF
  refine calls_of_wp Tryd.func17 rfl ?_
  have hE : Env _ 25 [(0, .pointer A1), (1, .int .i64 p1)] := Env.start ⟨[.pointer A1, .int .i64 p1]⟩ 23
  refine c_seq ?_; refine c_reg ?_; refine run tt_ok 1 hE rfl fun a hE => ?_; refine c_end ?_; refine xT ?_; refine c_seq ?_; refine c_reg ?_; refine run tt_ok 1 hE rfl fun a hE => ?_; refine c_end ?_; refine xT ?_
  refine c_seq ?_; refine c_seq ?_; refine c_reg ?_; refine run tt_ok 1 hE rfl fun a hE => ?_; refine c_end ?_; refine xT ?_; rcases (h2).cases with ⟨hp5, rfl⟩ | ⟨y3, b4, cs, hp5, rfl, hR6, hA7⟩
  · cases op_n hp5 hF
  replace hF := op_s hp5 hF; obtain ⟨A8, c9, A11, c12, rfl, h10, h13⟩ := Tref03_Lattice.inv.1 hR6; have hI := hI.nilrow 3 1; have hR91 : RL G0 1 (([] : List Int).map (D.int .i64)) [] := RL.nil
  obtain ⟨o220, hO221, hK222⟩ := bd hF; clear hF
  refine c_cut (fun a' w' => ∃ (s224 : (List Int)) (G225 : GH) (A227 : Option Addr) (c228 : Nat) (cs229 : List Value), o220 = .go s224 ∧ G0.le G225 ∧ Env a' 25 [(5, .slice A227 s224.length c228)] ∧ Inv w0 G0 [] G225 [.row (.slice A227 s224.length c228) 3 1 s224.length cs229] w' ∧ RL G225 1 (s224.map (D.int .i64)) cs229) ?_ ?_
  rotate_left
  · clear hE hI hO221; rintro a w ⟨s224, G225, A227, c228, cs229, rfl, hg231, hE, hI, hR230⟩; have hF := lrk_go hK222; clear hK222; refine xT ?_; refine c_seq ?_; refine c_reg ?_; refine run tt_ok 2 hE rfl fun a hE => ?_
    refine c_end ?_; refine xT ?_; obtain ⟨G232, hg233, hI, h234⟩ := (hI.front 0).giveR (xs := s224.map (D.int .i64)) (by simp) hR230; refine c_ret ?_; cases hF
    refine r_ret (v := _) hE rfl ⟨_, _, _, rfl, hI.nil, rfl, A227, c228, rfl, h234⟩
  refine c_block ?_
  refine wp_loop_ghost (fun n' a' w' => ∃ (i237 : Nat) (rest239 : List ByteArray) (s219 : (List Int)) (G213 : GH) (A215 : Option Addr) (c216 : Nat) (cs217 : List Value), n' = rest239.length ∧ i237 ≤ y3.Names.length ∧ y3.Names.drop i237 = rest239 ∧ forL (ref03_Lattice_Above.b0 k p0 p1) i237 rest239 s219 = some o220 ∧ G0.le G213 ∧ Env a' 25 [(6, .int .i64 (i237 : Int)), (0, .pointer (some ⟨b4, 0, none⟩)), (1, .int .i64 p1), (5, .slice A215 s219.length c216)] ∧ Inv w0 G0 [] G213 [.row (.slice A215 s219.length c216) 3 1 s219.length cs217] w' ∧ RL G213 1 (s219.map (D.int .i64)) cs217) _ ⟨0, _, _, G0, none, 0, [], rfl, Nat.zero_le _, rfl, hO221, (GH.le.refl _), hE.keep ⟨rfl, rfl, rfl, rfl, trivial⟩, hI, hR91⟩ ?_
  clear hE hI hO221; rintro m236 a w ⟨i237, rest239, s219, G213, A215, c216, cs217, rfl, hi243, hd240, hO221, hg223, hE, hI, hR218⟩; rcases rest239 with _ | ⟨x238, rest239⟩
  · obtain rfl := forL_nil hO221; have hlt242 := drop_nil hd240 hi243; clear hd240; refine c_seq ?_; refine c_seq ?_; refine c_reg ?_; refine run tt_ok 4 hE rfl fun a hE => ?_
    refine s_rt hI hE rfl (f_loadG tt_ok (hA7.mono hg223) 0 rfl rfl rfl rfl) rfl fun a hE => ?_; refine run tt_ok 2 hE rfl fun a hE => ?_; refine c_end ?_; refine xT ?_
    have hE := hE.tr (t := 13) rfl (decide_eq_false (by omega)); refine c_false hE rfl ?_; refine c_exit ?_; refine xTe ?_; refine xTe ?_; refine xBh ?_; refine xT ?_
    exact ⟨_, G213, A215, c216, cs217, rfl, hg223, hE.keep ⟨rfl, trivial⟩, hI, hR218⟩
  obtain ⟨stp235, hF, hO221⟩ := forL_step hO221; obtain ⟨hx241, hd240, hlt242⟩ := drop_cons hd240; unfold ref03_Lattice_Above.b0 at hF; refine c_seq ?_; refine c_seq ?_; refine c_reg ?_
  refine run tt_ok 4 hE rfl fun a hE => ?_; refine s_rt hI hE rfl (f_loadG tt_ok (hA7.mono hg223) 0 rfl rfl rfl rfl) rfl fun a hE => ?_; refine run tt_ok 2 hE rfl fun a hE => ?_; refine c_end ?_; refine xT ?_
  have hE := hE.tr (t := 13) rfl (decide_eq_true (by omega)); refine c_true hE rfl ?_; refine c_skip ?_; refine xT ?_; refine c_seq ?_; obtain ⟨m272, hF, hR274⟩ := bd hF
  refine c_cut (fun a' w' => ∃ (G266 : GH) (A268 : Option Addr) (c269 : Nat) (cs270 : List Value), G213.le G266 ∧ Env a' 25 [(0, .pointer (some ⟨b4, 0, none⟩)), (1, .int .i64 p1), (5, .slice A268 m272.length c269), (6, .int .i64 (i237 : Int))] ∧ Inv w0 G0 [] G266 [.row (.slice A268 m272.length c269) 3 1 m272.length cs270] w' ∧ RL G266 1 (m272.map (D.int .i64)) cs270) ?_ ?_
  rotate_left
  · clear hE hI; rintro a w ⟨G266, A268, c269, cs270, hg273, hE, hI, hR271⟩; clear hF; have hF := hR274; clear hR274; refine xT ?_; refine c_reg ?_; refine run tt_ok 3 hE rfl fun a hE => ?_; refine c_end ?_; refine xT ?_
    cases hF; have hE := hE.setI (t := 6) rfl (w64_succ hlt242 (len_le h10))
    exact ⟨rest239.length, Nat.lt_succ_self _, i237 + 1, rest239, _, G266, A268, c269, cs270, rfl, hlt242, hd240, hO221, (hg223.trans hg273), hE.keep ⟨rfl, rfl, rfl, rfl, trivial⟩, hI, hR271⟩
  refine c_block ?_; refine c_seq ?_; refine c_reg ?_; refine run tt_ok 3 hE rfl fun a hE => ?_; obtain ⟨y276, hy277, hF⟩ := bd hF
  refine s_call0 cl_10 hI hE rfl rfl ((ref03_Lattice_Leq.ok k) _ _ _ _ hy277 _ _ _ hI.pass0 (h2.mono hg223)) rfl ?_; clear hE hI; rintro a w _ G279 _ ⟨rfl, rfl⟩ hg278 hI hE; refine c_end ?_; refine xT ?_
  refine c_if (b := y276) hE rfl (fun hb292 => ?_) (fun hb292 => ?_); rotate_left
  · replace hF := cf hb292 hF; refine c_skip ?_; refine xB ?_; refine xT ?_; cases hF; exact ⟨G279, A215, c216, cs217, hg278, hE.keep ⟨rfl, rfl, rfl, rfl, trivial⟩, hI, (hR218.mono hg278)⟩
  replace hF := ct hb292 hF; refine c_reg ?_; refine run tt_ok 2 hE rfl fun a hE => ?_; refine s_bsl ai_36 hI hE rfl rfl rfl rfl rfl fun a w b284 hE hI => ?_
  have hR286 : RL G279 1 ([(i237 : Int)].map (D.int .i64)) [.int .i64 (i237 : Int)] := (RL.cons (rep_int.2 rfl) rfl RL.nil); obtain ⟨_, hb287, hF⟩ := bd hF
  refine s_appO (f := (D.int .i64)) (xs := s219) (ys := [(i237 : Int)]) ai_36 1 0 hI hE rfl rfl rfl hR286 rfl rfl (lim_le hb287) rfl fun a w A288 c289 hE hI => ?_; have hR291 := RL.appm (hR218.mono hg278) hR286
  refine run tt_ok 1 hE rfl fun a hE => ?_; refine c_end ?_; refine xB ?_; refine xT ?_; cases hF
  exact ⟨G279, A288, c289, (cs217 ++ [.int .i64 (i237 : Int)]), hg278, hE.keep ⟨rfl, rfl, rfl, rfl, trivial⟩, (hI.dropN 1 rfl), hR291⟩

theorem cl_3 : Callable Tryd.prog 3 := ⟨_, Tryd.func3, by kernel_rfl, by kernel_rfl⟩

def law03_LatticeTables.C (s : (List ByteArray) → (List TPair) → Int → Int → Option Bool) : Prop := ∀ (p0 : List ByteArray) (p1 : List TPair) (p2 : Int) (p3 : Int) (r : Bool), s p0 p1 p2 p3 = some r → ∀ (w0 : World) (G0 : GH) (A1 : Option Addr) (c2 : Nat) (A4 : Option Addr) (c5 : Nat), Inv w0 G0 [] G0 [] w0 → (Gl0 G0) → (Sl G0 A1 c2 1 (p0.map D.str)) → (Sl G0 A4 c5 2 (p1.map TPair.d)) → Calls Tryd.prog 3 #[.slice A1 p0.length c2, .slice A4 p1.length c5, .int .i64 p2, .int .i64 p3] w0 (Ret w0 G0 [] fun G' L' v => L' = [] ∧ v = .bool r)

theorem law03_LatticeTables.ok (k : Nat) : law03_LatticeTables.C (law03_LatticeTables k) := by
  intro p0 p1 p2 p3 r hF w0 G0 A1 c2 A4 c5 hI hGl0 h3 h6
  unfold law03_LatticeTables at hF
  refine calls_of_wp Tryd.func3 rfl ?_
  have hE : Env _ 129 [(0, .slice A1 p0.length c2), (1, .slice A4 p1.length c5), (2, .int .i64 p2), (3, .int .i64 p3)] := Env.start ⟨[.slice A1 p0.length c2, .slice A4 p1.length c5, .int .i64 p2, .int .i64 p3]⟩ 125
  refine c_seq ?_; refine c_reg ?_; refine run tt_ok 1 hE rfl fun a hE => ?_; refine c_end ?_; refine xT ?_; refine c_seq ?_; refine c_seq ?_; refine c_reg ?_; refine run tt_ok 2 hE rfl fun a hE => ?_
  obtain ⟨y8, hy9, hF⟩ := bd hF; refine s_call0 cl_5 hI hE rfl rfl ((law03_Few.ok k) _ _ _ hy9 _ _ _ _ _ _ hI.pass0 h3 h6) rfl ?_; clear hE hI; rintro a w _ G11 _ ⟨rfl, rfl⟩ hg10 hI hE
  refine run tt_ok 1 hE rfl fun a hE => ?_; refine c_end ?_; refine xT ?_; refine c_if (b := !y8) hE rfl (fun hb474 => ?_) (fun hb474 => ?_)
  · replace hF := ct hb474 hF; refine c_seq ?_; refine c_reg ?_; obtain ⟨y13, hy14, hF⟩ := bd hF; refine s_call0 cl_6 hI hE rfl rfl ((law03_alive.ok k) _ hy14 _ _  hI.pass0 ) rfl ?_; clear hE hI
    rintro a w _ G16 _ ⟨rfl, rfl⟩ hg15 hI hE; refine run tt_ok 1 hE rfl fun a hE => ?_; refine c_end ?_; refine xT ?_; refine c_ret ?_; refine xTr ?_; cases hF; refine r_ret (v := _) hE rfl ⟨_, _, _, rfl, hI.nil, rfl, rfl⟩
  replace hF := cf hb474 hF; refine c_skip ?_; refine xT ?_; refine c_seq ?_; refine c_reg ?_; refine run tt_ok 2 hE rfl fun a hE => ?_; obtain ⟨y21, hy22, hF⟩ := bd hF
  refine s_call0 cl_7 hI hE rfl rfl ((lattice_New.ok k) _ _ _ hy22 _ _ _ _ _ _ hI.pass0 (h3.mono hg10) (h6.mono hg10)) rfl ?_; clear hE hI; rintro a w _ G24 _ ⟨rfl, A25, rfl, h26⟩ hg23 hI hE
  refine run tt_ok 5 hE rfl fun a hE => ?_; refine c_end ?_; refine xT ?_; refine c_seq ?_; refine c_reg ?_; refine run tt_ok 2 hE rfl fun a hE => ?_; obtain ⟨y31, hy32, hF⟩ := bd hF
  refine s_call0 cl_8 hI hE rfl rfl ((ref03_New.ok k) _ _ _ hy32 _ _ _ _ _ _ hI.pass0 (h3.mono (hg10.trans hg23)) (h6.mono (hg10.trans hg23))) rfl ?_; clear hE hI; rintro a w _ G34 _ ⟨rfl, A35, rfl, h36⟩ hg33 hI hE
  refine run tt_ok 5 hE rfl fun a hE => ?_; refine c_end ?_; refine xT ?_; refine c_seq ?_; refine c_seq ?_; obtain ⟨m40, hF, hR42⟩ := bd hF
  refine c_cut (fun a' w' => ∃ (G38 : GH), G34.le G38 ∧ Env a' 129 [(0, .slice A1 p0.length c2), (2, .int .i64 p2), (3, .int .i64 p3), (9, .pointer A25), (10, .int .i64 y21.2), (11, .pointer A35), (12, .int .i64 y31.2), (37, .bool m40)] ∧ Inv w0 G0 [] G38 [] w') ?_ ?_
  · refine c_reg ?_; refine run tt_ok 3 hE rfl fun a hE => ?_; rcases bool_or (!decide (y21.2 = (0 : Int))) with hb473 | hb473
    · replace hF := ct hb473 hF; have hE := hE.tr (t := 34) rfl hb473; clear hb473; refine run tt_ok 3 hE rfl fun a hE => ?_; refine c_end ?_; refine xT ?_; cases hF
      exact ⟨G34, (GH.le.refl _), hE.keep ⟨rfl, rfl, rfl, rfl, rfl, rfl, rfl, rfl, trivial⟩, hI⟩
    replace hF := cf hb473 hF; have hE := hE.tr (t := 34) rfl hb473; clear hb473; refine run tt_ok 3 hE rfl fun a hE => ?_; refine c_end ?_; refine xT ?_; cases hF
    exact ⟨G34, (GH.le.refl _), hE.keep ⟨rfl, rfl, rfl, rfl, rfl, rfl, rfl, rfl, trivial⟩, hI⟩
  clear hE hI; rintro a w ⟨G38, hg41, hE, hI⟩; clear hF; have hF := hR42; clear hR42; refine xT ?_; refine c_if (b := m40) hE rfl (fun hb472 => ?_) (fun hb472 => ?_)
  · replace hF := ct hb472 hF; refine c_seq ?_; obtain ⟨m50, hF, hR52⟩ := bd hF; refine c_cut (fun a' w' => ∃ (G48 : GH), G38.le G48 ∧ Env a' 129 [(8, .bool m50)] ∧ Inv w0 G0 [] G48 [] w') ?_ ?_; rotate_left
    · clear hE hI; rintro a w ⟨G48, hg51, hE, hI⟩; clear hF; have hF := hR52; clear hR52; refine xT ?_; refine c_ret ?_; refine xTr ?_; cases hF; refine r_ret (v := _) hE rfl ⟨_, _, _, rfl, hI.nil, rfl, rfl⟩
    refine c_reg ?_; refine run tt_ok 4 hE rfl fun a hE => ?_; rcases bool_or (decide (y21.2 = y31.2)) with hb53 | hb53; rotate_left
    · replace hF := cf hb53 hF; have hE := hE.tr (t := 41) rfl hb53; clear hb53; refine run tt_ok 3 hE rfl fun a hE => ?_; refine c_end ?_; refine xT ?_; cases hF; exact ⟨G38, (GH.le.refl _), hE.keep ⟨rfl, trivial⟩, hI⟩
    replace hF := ct hb53 hF; have hE := hE.tr (t := 41) rfl hb53; clear hb53; obtain ⟨y54, hy55, hF⟩ := bd hF; refine s_call0 cl_6 hI hE rfl rfl ((law03_alive.ok k) _ hy55 _ _  hI.pass0 ) rfl ?_; clear hE hI
    rintro a w _ G57 _ ⟨rfl, rfl⟩ hg56 hI hE; refine run tt_ok 2 hE rfl fun a hE => ?_; refine c_end ?_; refine xT ?_; cases hF; exact ⟨G57, hg56, hE.keep ⟨rfl, trivial⟩, hI⟩
  replace hF := cf hb472 hF; refine c_skip ?_; refine xT ?_; refine c_seq ?_; refine c_seq ?_; obtain ⟨m108, hF, hR110⟩ := bd hF
  refine c_cut (fun a' w' => ∃ (G106 : GH), G38.le G106 ∧ Env a' 129 [(0, .slice A1 p0.length c2), (9, .pointer A25), (11, .pointer A35), (84, .bool m108)] ∧ Inv w0 G0 [] G106 [] w') ?_ ?_
  · refine c_reg ?_; refine run tt_ok 3 hE rfl fun a hE => ?_; obtain ⟨y427, hy428, hF⟩ := bd hF
    refine s_call0 cl_9 hI hE rfl rfl ((lattice_Lattice_Leq.ok k) _ _ _ _ hy428 _ _ _ hI.pass0 (h26.mono (hg33.trans hg41))) rfl ?_; clear hE hI; rintro a w _ G430 _ ⟨rfl, rfl⟩ hg429 hI hE
    refine run tt_ok 3 hE rfl fun a hE => ?_; obtain ⟨y431, hy432, hF⟩ := bd hF; refine s_call0 cl_10 hI hE rfl rfl ((ref03_Lattice_Leq.ok k) _ _ _ _ hy432 _ _ _ hI.pass0 (h36.mono (hg41.trans hg429))) rfl ?_; clear hE hI
    rintro a w _ G434 _ ⟨rfl, rfl⟩ hg433 hI hE; refine s_rt hI hE rfl (f_bne ub_4 rfl rfl) rfl fun a hE => ?_; refine run tt_ok 1 hE rfl fun a hE => ?_; rcases bool_or (!(y427 == y431)) with hb435 | hb435
    · replace hF := ct hb435 hF; have hE := hE.tr (t := 53) rfl hb435; clear hb435; refine run tt_ok 31 hE rfl fun a hE => ?_; refine c_end ?_; refine xT ?_; cases hF
      exact ⟨G434, (hg429.trans hg433), hE.keep ⟨rfl, rfl, rfl, rfl, trivial⟩, hI⟩
    replace hF := cf hb435 hF; have hE := hE.tr (t := 53) rfl hb435; clear hb435; refine run tt_ok 3 hE rfl fun a hE => ?_; obtain ⟨y436, hy437, hF⟩ := bd hF
    refine s_call0 cl_11 hI hE rfl rfl ((lattice_Lattice_Join.ok k) _ _ _ _ hy437 _ _ _ hI.pass0 (h26.mono (((hg33.trans hg41).trans hg429).trans hg433))) rfl ?_; clear hE hI; rintro a w _ G439 _ ⟨rfl, rfl⟩ hg438 hI hE
    refine run tt_ok 3 hE rfl fun a hE => ?_; obtain ⟨y440, hy441, hF⟩ := bd hF
    refine s_call0 cl_12 hI hE rfl rfl ((ref03_Lattice_Join.ok k) _ _ _ _ hy441 _ _ _ hI.pass0 (h36.mono (((hg41.trans hg429).trans hg433).trans hg438))) rfl ?_; clear hE hI; rintro a w _ G443 _ ⟨rfl, rfl⟩ hg442 hI hE
    refine run tt_ok 3 hE rfl fun a hE => ?_; rcases bool_or (!decide (y436 = y440)) with hb444 | hb444
    · replace hF := ct hb444 hF; have hE := hE.tr (t := 64) rfl hb444; clear hb444; refine run tt_ok 20 hE rfl fun a hE => ?_; refine c_end ?_; refine xT ?_; cases hF
      exact ⟨G443, (((hg429.trans hg433).trans hg438).trans hg442), hE.keep ⟨rfl, rfl, rfl, rfl, trivial⟩, hI⟩
    replace hF := cf hb444 hF; have hE := hE.tr (t := 64) rfl hb444; clear hb444; refine run tt_ok 3 hE rfl fun a hE => ?_; obtain ⟨y445, hy446, hF⟩ := bd hF
    refine s_call0 cl_13 hI hE rfl rfl ((lattice_Lattice_Meet.ok k) _ _ _ _ hy446 _ _ _ hI.pass0 (h26.mono (((((hg33.trans hg41).trans hg429).trans hg433).trans hg438).trans hg442))) rfl ?_; clear hE hI
    rintro a w _ G448 _ ⟨rfl, rfl⟩ hg447 hI hE; refine run tt_ok 3 hE rfl fun a hE => ?_; obtain ⟨y449, hy450, hF⟩ := bd hF
    refine s_call0 cl_14 hI hE rfl rfl ((ref03_Lattice_Meet.ok k) _ _ _ _ hy450 _ _ _ hI.pass0 (h36.mono (((((hg41.trans hg429).trans hg433).trans hg438).trans hg442).trans hg447))) rfl ?_; clear hE hI
    rintro a w _ G452 _ ⟨rfl, rfl⟩ hg451 hI hE; refine run tt_ok 3 hE rfl fun a hE => ?_; rcases bool_or (!decide (y445 = y449)) with hb453 | hb453
    · replace hF := ct hb453 hF; have hE := hE.tr (t := 75) rfl hb453; clear hb453; refine run tt_ok 9 hE rfl fun a hE => ?_; refine c_end ?_; refine xT ?_; cases hF
      exact ⟨G452, (((((hg429.trans hg433).trans hg438).trans hg442).trans hg447).trans hg451), hE.keep ⟨rfl, rfl, rfl, rfl, trivial⟩, hI⟩
    replace hF := cf hb453 hF; have hE := hE.tr (t := 75) rfl hb453; clear hb453; refine run tt_ok 2 hE rfl fun a hE => ?_; obtain ⟨y454, hy455, hF⟩ := bd hF
    refine s_call0 cl_16 hI hE rfl rfl ((lattice_Lattice_Above.ok k) _ _ _ hy455 _ _ _ hI.pass0 (hGl0.mono (((((((((hg10.trans hg23).trans hg33).trans hg41).trans hg429).trans hg433).trans hg438).trans hg442).trans hg447).trans hg451)) (h26.mono (((((((hg33.trans hg41).trans hg429).trans hg433).trans hg438).trans hg442).trans hg447).trans hg451))) rfl ?_; clear hE hI
    rintro a w _ G457 _ ⟨rfl, A458, c459, rfl, h460⟩ hg456 hI hE; refine run tt_ok 2 hE rfl fun a hE => ?_; obtain ⟨y461, hy462, hF⟩ := bd hF
    refine s_call0 cl_17 hI hE rfl rfl ((ref03_Lattice_Above.ok k) _ _ _ hy462 _ _ _ hI.pass0 (h36.mono (((((((hg41.trans hg429).trans hg433).trans hg438).trans hg442).trans hg447).trans hg451).trans hg456))) rfl ?_; clear hE hI
    rintro a w _ G464 _ ⟨rfl, A465, c466, rfl, h467⟩ hg463 hI hE; obtain ⟨y468, hy469, hF⟩ := bd hF
    refine s_call0 cl_15 hI hE rfl rfl ((ref03_Ints.ok k) _ _ _ hy469 _ _ _ _ _ _ hI.pass0 (h460.mono hg463) h467) rfl ?_; clear hE hI; rintro a w _ G471 _ ⟨rfl, rfl⟩ hg470 hI hE; refine run tt_ok 2 hE rfl fun a hE => ?_
    refine c_end ?_; refine xT ?_; cases hF; exact ⟨G471, ((((((((hg429.trans hg433).trans hg438).trans hg442).trans hg447).trans hg451).trans hg456).trans hg463).trans hg470), hE.keep ⟨rfl, rfl, rfl, rfl, trivial⟩, hI⟩
  clear hE hI; rintro a w ⟨G106, hg109, hE, hI⟩; clear hF; have hF := hR110; clear hR110; refine xT ?_; refine c_if (b := m108) hE rfl (fun hb426 => ?_) (fun hb426 => ?_)
  · replace hF := ct hb426 hF; refine c_seq ?_; refine c_reg ?_; refine run tt_ok 1 hE rfl fun a hE => ?_; refine c_end ?_; refine xT ?_; refine c_ret ?_; refine xTr ?_; cases hF
    refine r_ret (v := _) hE rfl ⟨_, _, _, rfl, hI.nil, rfl, rfl⟩
  replace hF := cf hb426 hF; refine c_skip ?_; refine xT ?_; refine c_seq ?_; refine c_seq ?_; refine c_reg ?_; refine run tt_ok 3 hE rfl fun a hE => ?_; refine c_end ?_; refine xT ?_
  obtain ⟨o261, hO262, hK263⟩ := bd hF; clear hF; refine c_cut (fun a' w' => ∃ (s265 : Unit) (G266 : GH), o261 = .go s265 ∧ G106.le G266 ∧ Env a' 129 [] ∧ Inv w0 G0 [] G266 [] w') ?_ ?_; rotate_left
  · clear hE hI hO262; rintro a w ⟨s265, G266, rfl, hg267, hE, hI⟩; have hF := lrk_go hK263; clear hK263; refine xT ?_; refine c_seq ?_; refine c_reg ?_; obtain ⟨y269, hy270, hF⟩ := bd hF
    refine s_call0 cl_6 hI hE rfl rfl ((law03_alive.ok k) _ hy270 _ _  hI.pass0 ) rfl ?_; clear hE hI; rintro a w _ G272 _ ⟨rfl, rfl⟩ hg271 hI hE; refine run tt_ok 1 hE rfl fun a hE => ?_; refine c_end ?_; refine xT ?_
    refine c_ret ?_; cases hF; refine r_ret (v := _) hE rfl ⟨_, _, _, rfl, hI.nil, rfl, rfl⟩
  refine c_block ?_
  refine wp_loop_ghost (fun n' a' w' => ∃ (i275 : Nat) (rest277 : List ByteArray) (s260 : Unit) (G259 : GH), n' = rest277.length ∧ i275 ≤ p0.length ∧ p0.drop i275 = rest277 ∧ forL (law03_LatticeTables.b0 k y21 y31 p0) i275 rest277 s260 = some o261 ∧ G106.le G259 ∧ Env a' 129 [(87, .int .i64 (i275 : Int)), (0, .slice A1 p0.length c2), (9, .pointer A25), (11, .pointer A35), (86, .int .i64 (p0.length : Int))] ∧ Inv w0 G0 [] G259 [] w') _ ⟨0, _, _, G106, rfl, Nat.zero_le _, rfl, hO262, (GH.le.refl _), hE.keep ⟨rfl, rfl, rfl, rfl, rfl, trivial⟩, hI⟩ ?_
  clear hE hI hO262; rintro m274 a w ⟨i275, rest277, s260, G259, rfl, hi281, hd278, hO262, hg264, hE, hI⟩; rcases rest277 with _ | ⟨x276, rest277⟩
  · obtain rfl := forL_nil hO262; have hlt280 := drop_nil hd278 hi281; clear hd278; refine c_seq ?_; refine c_reg ?_; refine run tt_ok 1 hE rfl fun a hE => ?_; refine c_end ?_; refine xT ?_; refine c_seq ?_
    have hE := hE.tr (t := 88) rfl (decide_eq_false (by omega)); refine c_false hE rfl ?_; refine c_exit ?_; refine xTe ?_; refine xTe ?_; refine xBh ?_; refine xT ?_; exact ⟨_, G259, rfl, hg264, hE.keep trivial, hI⟩
  obtain ⟨stp273, hF, hO262⟩ := forL_step hO262; obtain ⟨hx279, hd278, hlt280⟩ := drop_cons hd278; unfold law03_LatticeTables.b0 at hF; refine c_seq ?_; refine c_reg ?_; refine run tt_ok 1 hE rfl fun a hE => ?_
  refine c_end ?_; refine xT ?_; refine c_seq ?_; have hE := hE.tr (t := 88) rfl (decide_eq_true (by omega)); refine c_true hE rfl ?_; refine c_skip ?_; refine xT ?_; refine c_seq ?_; refine c_block ?_; refine c_seq ?_
  refine c_reg ?_; refine run tt_ok 2 hE rfl fun a hE => ?_; refine c_end ?_; refine xT ?_; refine c_seq ?_; refine c_reg ?_; refine run tt_ok 3 hE rfl fun a hE => ?_; refine c_end ?_; refine xT ?_
  obtain ⟨o349, hO350, hK351⟩ := bd hF; clear hF
  refine c_cut (fun a' w' => ∃ (s353 : Unit) (G354 : GH), o349 = .go s353 ∧ G259.le G354 ∧ Env a' 129 [(0, .slice A1 p0.length c2), (9, .pointer A25), (11, .pointer A35), (86, .int .i64 (p0.length : Int)), (87, .int .i64 (i275 : Int))] ∧ Inv w0 G0 [] G354 [] w') ?_ ?_
  rotate_left
  · clear hE hI hO350; rintro a w ⟨s353, G354, rfl, hg355, hE, hI⟩; have hF := lrk_go hK351; clear hK351; refine xB ?_; refine xT ?_; refine c_reg ?_; refine run tt_ok 2 hE rfl fun a hE => ?_; refine c_end ?_; refine xT ?_
    cases hF; have hE := hE.setI (t := 87) rfl (w64_succ hlt280 (len_le h3))
    exact ⟨rest277.length, Nat.lt_succ_self _, i275 + 1, rest277, _, G354, rfl, hlt280, hd278, hO262, (hg264.trans hg355), hE.keep ⟨rfl, rfl, rfl, rfl, rfl, trivial⟩, hI⟩
  refine c_block ?_
  refine wp_loop_ghost (fun n' a' w' => ∃ (i358 : Nat) (rest360 : List ByteArray) (s348 : Unit) (G347 : GH), n' = rest360.length ∧ i358 ≤ p0.length ∧ p0.drop i358 = rest360 ∧ forL (law03_LatticeTables.b1 k y21 i275 y31) i358 rest360 s348 = some o349 ∧ G259.le G347 ∧ Env a' 129 [(92, .int .i64 (i358 : Int)), (0, .slice A1 p0.length c2), (9, .pointer A25), (11, .pointer A35), (13, .int .i64 (i275 : Int)), (86, .int .i64 (p0.length : Int)), (87, .int .i64 (i275 : Int)), (91, .int .i64 (p0.length : Int))] ∧ Inv w0 G0 [] G347 [] w') _ ⟨0, _, _, G259, rfl, Nat.zero_le _, rfl, hO350, (GH.le.refl _), hE.keep ⟨rfl, rfl, rfl, rfl, rfl, rfl, rfl, rfl, trivial⟩, hI⟩ ?_
  clear hE hI hO350; rintro m357 a w ⟨i358, rest360, s348, G347, rfl, hi364, hd361, hO350, hg352, hE, hI⟩; rcases rest360 with _ | ⟨x359, rest360⟩
  · obtain rfl := forL_nil hO350; have hlt363 := drop_nil hd361 hi364; clear hd361; refine c_seq ?_; refine c_reg ?_; refine run tt_ok 1 hE rfl fun a hE => ?_; refine c_end ?_; refine xT ?_; refine c_seq ?_
    have hE := hE.tr (t := 93) rfl (decide_eq_false (by omega)); refine c_false hE rfl ?_; refine c_exit ?_; refine xTe ?_; refine xTe ?_; refine xBh ?_; refine xT ?_
    exact ⟨_, G347, rfl, hg352, hE.keep ⟨rfl, rfl, rfl, rfl, rfl, trivial⟩, hI⟩
  obtain ⟨stp356, hF, hO350⟩ := forL_step hO350; obtain ⟨hx362, hd361, hlt363⟩ := drop_cons hd361; unfold law03_LatticeTables.b1 at hF; refine c_seq ?_; refine c_reg ?_; refine run tt_ok 1 hE rfl fun a hE => ?_
  refine c_end ?_; refine xT ?_; refine c_seq ?_; have hE := hE.tr (t := 93) rfl (decide_eq_true (by omega)); refine c_true hE rfl ?_; refine c_skip ?_; refine xT ?_; refine c_seq ?_; refine c_block ?_; refine c_seq ?_
  refine c_reg ?_; refine run tt_ok 2 hE rfl fun a hE => ?_; refine c_end ?_; refine xT ?_; refine c_seq ?_; obtain ⟨m396, hF, hR398⟩ := bd hF
  refine c_cut (fun a' w' => ∃ (G394 : GH), G347.le G394 ∧ Env a' 129 [(0, .slice A1 p0.length c2), (9, .pointer A25), (11, .pointer A35), (13, .int .i64 (i275 : Int)), (86, .int .i64 (p0.length : Int)), (87, .int .i64 (i275 : Int)), (91, .int .i64 (p0.length : Int)), (92, .int .i64 (i358 : Int)), (125, .bool m396)] ∧ Inv w0 G0 [] G394 [] w') ?_ ?_
  rotate_left
  · clear hE hI; rintro a w ⟨G394, hg397, hE, hI⟩; clear hF; have hF := hR398; clear hR398; refine xT ?_; refine c_if (b := m396) hE rfl (fun hb399 => ?_) (fun hb399 => ?_); rotate_left
    · replace hF := cf hb399 hF; refine c_skip ?_; refine xB ?_; refine xT ?_; refine c_reg ?_; refine run tt_ok 2 hE rfl fun a hE => ?_; refine c_end ?_; refine xT ?_; cases hF
      have hE := hE.setI (t := 92) rfl (w64_succ hlt363 (len_le h3))
      exact ⟨rest360.length, Nat.lt_succ_self _, i358 + 1, rest360, _, G394, rfl, hlt363, hd361, hO350, (hg352.trans hg397), hE.keep ⟨rfl, rfl, rfl, rfl, rfl, rfl, rfl, rfl, trivial⟩, hI⟩
    replace hF := ct hb399 hF; refine c_seq ?_; refine c_reg ?_; refine run tt_ok 1 hE rfl fun a hE => ?_; refine c_end ?_; refine xT ?_; refine c_ret ?_; refine xBr ?_; refine xTr ?_; refine xTr ?_; refine xBr ?_
    refine xTr ?_; refine xBr ?_; refine xTr ?_; refine xTr ?_; refine xBr ?_; refine xTr ?_; refine xTr ?_; cases hF; obtain rfl := nxt_ret hO350; have hF := lrk_ret hK351
    cases hF; obtain rfl := nxt_ret hO262; have hF := lrk_ret hK263; cases hF; refine r_ret (v := _) hE rfl ⟨_, _, _, rfl, hI.nil, rfl, rfl⟩
  refine c_reg ?_; refine run tt_ok 3 hE rfl fun a hE => ?_; obtain ⟨y400, hy401, hF⟩ := bd hF
  refine s_call0 cl_9 hI hE rfl rfl ((lattice_Lattice_Leq.ok k) _ _ _ _ hy401 _ _ _ hI.pass0 (h26.mono ((((hg33.trans hg41).trans hg109).trans hg264).trans hg352))) rfl ?_; clear hE hI
  rintro a w _ G403 _ ⟨rfl, rfl⟩ hg402 hI hE; refine run tt_ok 3 hE rfl fun a hE => ?_; obtain ⟨y404, hy405, hF⟩ := bd hF
  refine s_call0 cl_10 hI hE rfl rfl ((ref03_Lattice_Leq.ok k) _ _ _ _ hy405 _ _ _ hI.pass0 (h36.mono ((((hg41.trans hg109).trans hg264).trans hg352).trans hg402))) rfl ?_; clear hE hI
  rintro a w _ G407 _ ⟨rfl, rfl⟩ hg406 hI hE; refine s_rt hI hE rfl (f_bne ub_4 rfl rfl) rfl fun a hE => ?_; refine run tt_ok 1 hE rfl fun a hE => ?_; rcases bool_or (!(y400 == y404)) with hb408 | hb408
  · replace hF := ct hb408 hF; have hE := hE.tr (t := 104) rfl hb408; clear hb408; refine run tt_ok 21 hE rfl fun a hE => ?_; refine c_end ?_; refine xT ?_; cases hF
    exact ⟨G407, (hg402.trans hg406), hE.keep ⟨rfl, rfl, rfl, rfl, rfl, rfl, rfl, rfl, rfl, trivial⟩, hI⟩
  replace hF := cf hb408 hF; have hE := hE.tr (t := 104) rfl hb408; clear hb408; refine run tt_ok 3 hE rfl fun a hE => ?_; obtain ⟨y409, hy410, hF⟩ := bd hF
  refine s_call0 cl_11 hI hE rfl rfl ((lattice_Lattice_Join.ok k) _ _ _ _ hy410 _ _ _ hI.pass0 (h26.mono ((((((hg33.trans hg41).trans hg109).trans hg264).trans hg352).trans hg402).trans hg406))) rfl ?_; clear hE hI
  rintro a w _ G412 _ ⟨rfl, rfl⟩ hg411 hI hE; refine run tt_ok 3 hE rfl fun a hE => ?_; obtain ⟨y413, hy414, hF⟩ := bd hF
  refine s_call0 cl_12 hI hE rfl rfl ((ref03_Lattice_Join.ok k) _ _ _ _ hy414 _ _ _ hI.pass0 (h36.mono ((((((hg41.trans hg109).trans hg264).trans hg352).trans hg402).trans hg406).trans hg411))) rfl ?_; clear hE hI
  rintro a w _ G416 _ ⟨rfl, rfl⟩ hg415 hI hE; refine run tt_ok 3 hE rfl fun a hE => ?_; rcases bool_or (!decide (y409 = y413)) with hb417 | hb417
  · replace hF := ct hb417 hF; have hE := hE.tr (t := 115) rfl hb417; clear hb417; refine run tt_ok 10 hE rfl fun a hE => ?_; refine c_end ?_; refine xT ?_; cases hF
    exact ⟨G416, (((hg402.trans hg406).trans hg411).trans hg415), hE.keep ⟨rfl, rfl, rfl, rfl, rfl, rfl, rfl, rfl, rfl, trivial⟩, hI⟩
  replace hF := cf hb417 hF; have hE := hE.tr (t := 115) rfl hb417; clear hb417; refine run tt_ok 3 hE rfl fun a hE => ?_; obtain ⟨y418, hy419, hF⟩ := bd hF
  refine s_call0 cl_13 hI hE rfl rfl ((lattice_Lattice_Meet.ok k) _ _ _ _ hy419 _ _ _ hI.pass0 (h26.mono ((((((((hg33.trans hg41).trans hg109).trans hg264).trans hg352).trans hg402).trans hg406).trans hg411).trans hg415))) rfl ?_; clear hE hI
  rintro a w _ G421 _ ⟨rfl, rfl⟩ hg420 hI hE; refine run tt_ok 3 hE rfl fun a hE => ?_; obtain ⟨y422, hy423, hF⟩ := bd hF
  refine s_call0 cl_14 hI hE rfl rfl ((ref03_Lattice_Meet.ok k) _ _ _ _ hy423 _ _ _ hI.pass0 (h36.mono ((((((((hg41.trans hg109).trans hg264).trans hg352).trans hg402).trans hg406).trans hg411).trans hg415).trans hg420))) rfl ?_; clear hE hI
  rintro a w _ G425 _ ⟨rfl, rfl⟩ hg424 hI hE; refine run tt_ok 2 hE rfl fun a hE => ?_; refine c_end ?_; refine xT ?_; cases hF
  exact ⟨G425, (((((hg402.trans hg406).trans hg411).trans hg415).trans hg420).trans hg424), hE.keep ⟨rfl, rfl, rfl, rfl, rfl, rfl, rfl, rfl, rfl, trivial⟩, hI⟩

theorem cl_18 : Callable Tryd.prog 18 := ⟨_, Tryd.func18, by kernel_rfl, by kernel_rfl⟩

def lattice_Lattice_Find.C (s : (Option Tlattice_Lattice) → ByteArray → Option (Int × Bool)) : Prop := ∀ (p0 : Option Tlattice_Lattice) (p1 : ByteArray) (r : Int × Bool), s p0 p1 = some r → ∀ (w0 : World) (G0 : GH) (A1 : Option Addr), Inv w0 G0 [] G0 [] w0 → (Pt G0 A1 54 Tlattice_Lattice.d p0) → Calls Tryd.prog 18 #[.pointer A1, .string p1] w0 (Ret w0 G0 [] fun G' L' v => L' = [] ∧ v = .tuple ⟨[.int .i64 r.1, .bool r.2]⟩)

theorem lattice_Lattice_Find.ok (k : Nat) : lattice_Lattice_Find.C (lattice_Lattice_Find k) := by
  intro p0 p1 r hF w0 G0 A1 hI h2
  unfold lattice_Lattice_Find at hF
  refine calls_of_wp Tryd.func18 rfl ?_
  have hE : Env _ 21 [(0, .pointer A1), (1, .string p1)] := Env.start ⟨[.pointer A1, .string p1]⟩ 19
  refine c_seq ?_; refine c_reg ?_; refine run tt_ok 2 hE rfl fun a hE => ?_; refine c_end ?_; refine xT ?_; refine c_seq ?_; refine c_seq ?_; refine c_reg ?_; refine run tt_ok 1 hE rfl fun a hE => ?_
  refine s_rt hI hE rfl (f_pnil up_26 h2 rfl rfl) rfl fun a hE => ?_; refine c_end ?_; refine xT ?_; refine c_if (b := p0.isNone) hE rfl (fun hb27 => ?_) (fun hb27 => ?_)
  · replace hF := ct hb27 hF; refine c_seq ?_; refine c_reg ?_; refine run tt_ok 2 hE rfl fun a hE => ?_; refine c_end ?_; refine xT ?_; refine c_ret ?_; refine xTr ?_; cases hF
    refine r_ret (v := _) hE rfl ⟨_, _, _, rfl, hI.nil, rfl, rfl⟩
  replace hF := cf hb27 hF; refine c_skip ?_; refine xT ?_; refine c_seq ?_; refine c_reg ?_; refine run tt_ok 1 hE rfl fun a hE => ?_; rcases (h2).cases with ⟨hp8, rfl⟩ | ⟨y6, b7, cs, hp8, rfl, hR9, hA10⟩
  · cases op_n hp8 hF
  replace hF := op_s hp8 hF; obtain ⟨A11, c12, A14, A16, c17, A19, c20, rfl, h13, h15, h18, h21⟩ := Tlattice_Lattice.inv.1 hR9; refine run tt_ok 2 hE rfl fun a hE => ?_
  refine s_rt hI hE rfl (f_loadG tt_ok hA10 1 rfl rfl rfl rfl) rfl fun a hE => ?_; refine run tt_ok 1 hE rfl fun a hE => ?_
  obtain ⟨c22, u23, hr24, hu25, hrt26⟩ := f_lookG key_str h15 um_49 uk_9 true hE (L := []) (x := .tmp 14) (y := .tmp 15) rfl rfl z_3 (rep_int.2 rfl) rfl; obtain rfl : c22 = [u23] := hu25; obtain rfl := rep1_int.1 hr24
  refine s_rt hI hE rfl (hrt26 _ _ _) rfl fun a hE => ?_; refine run tt_ok 5 hE rfl fun a hE => ?_; refine c_end ?_; refine xT ?_; refine c_seq ?_; refine c_reg ?_; refine run tt_ok 4 hE rfl fun a hE => ?_; refine c_end ?_
  refine xT ?_; refine c_ret ?_; cases hF; refine r_ret (v := _) hE rfl ⟨_, _, _, rfl, hI.nil, rfl, rfl⟩

theorem cl_19 : Callable Tryd.prog 19 := ⟨_, Tryd.func19, by kernel_rfl, by kernel_rfl⟩

def lattice_Lattice_Levels.C (s : (Option Tlattice_Lattice) → Option (List ByteArray)) : Prop := ∀ (p0 : Option Tlattice_Lattice) (r : (List ByteArray)), s p0 = some r → ∀ (w0 : World) (G0 : GH) (A1 : Option Addr), Inv w0 G0 [] G0 [] w0 → (Pt G0 A1 54 Tlattice_Lattice.d p0) → Calls Tryd.prog 19 #[.pointer A1] w0 (Ret w0 G0 [] fun G' L' v => L' = [] ∧ ∃ A0 c0, v = .slice A0 r.length c0 ∧ Sl G' A0 c0 1 (r.map D.str))

theorem lattice_Lattice_Levels.ok (k : Nat) : lattice_Lattice_Levels.C (lattice_Lattice_Levels k) := by
  intro p0 r hF w0 G0 A1 hI h2
  unfold lattice_Lattice_Levels at hF
  refine calls_of_wp Tryd.func19 rfl ?_
  have hE : Env _ 10 [(0, .pointer A1)] := Env.start ⟨[.pointer A1]⟩ 9
  refine c_seq ?_; refine c_reg ?_; refine run tt_ok 1 hE rfl fun a hE => ?_; refine c_end ?_; refine xT ?_; refine c_seq ?_; refine c_seq ?_; refine c_reg ?_; refine run tt_ok 1 hE rfl fun a hE => ?_
  refine s_rt hI hE rfl (f_pnil up_26 h2 rfl rfl) rfl fun a hE => ?_; refine c_end ?_; refine xT ?_; refine c_if (b := p0.isNone) hE rfl (fun hb35 => ?_) (fun hb35 => ?_)
  · replace hF := ct hb35 hF; refine c_seq ?_; refine c_reg ?_; refine run tt_ok 1 hE rfl fun a hE => ?_; refine c_end ?_; refine xT ?_; refine c_ret ?_; refine xTr ?_; cases hF
    refine r_ret (v := _) hE rfl ⟨_, _, _, rfl, hI.nil, rfl, none, 0, rfl, (Sl.nil _ _ _ _ (Nat.zero_le _))⟩
  replace hF := cf hb35 hF; refine c_skip ?_; refine xT ?_; refine c_seq ?_; refine c_reg ?_; refine run tt_ok 1 hE rfl fun a hE => ?_; rcases (h2).cases with ⟨hp14, rfl⟩ | ⟨y12, b13, cs, hp14, rfl, hR15, hA16⟩
  · cases op_n hp14 hF
  replace hF := op_s hp14 hF; obtain ⟨A17, c18, A20, A22, c23, A25, c26, rfl, h19, h21, h24, h27⟩ := Tlattice_Lattice.inv.1 hR15; refine run tt_ok 2 hE rfl fun a hE => ?_
  refine s_rt hI hE rfl (f_loadG tt_ok hA16 0 rfl rfl rfl rfl) rfl fun a hE => ?_; obtain ⟨y28, hy29, hF⟩ := bd hF
  refine s_call0 cl_23 hI hE rfl rfl ((slices_Clone_string_string.ok k) _ _ hy29 _ _ _ _ hI.pass0 h19) rfl ?_; clear hE hI; rintro a w _ G31 _ ⟨rfl, A32, c33, rfl, h34⟩ hg30 hI hE; refine run tt_ok 1 hE rfl fun a hE => ?_
  refine c_end ?_; refine xT ?_; refine c_ret ?_; cases hF; refine r_ret (v := _) hE rfl ⟨_, _, _, rfl, hI.nil, rfl, A32, c33, rfl, h34⟩

theorem cl_20 : Callable Tryd.prog 20 := ⟨_, Tryd.func20, by kernel_rfl, by kernel_rfl⟩

def lattice_Lattice_Bottom.C (s : (Option Tlattice_Lattice) → Option Int) : Prop := ∀ (p0 : Option Tlattice_Lattice) (r : Int), s p0 = some r → ∀ (w0 : World) (G0 : GH) (A1 : Option Addr), Inv w0 G0 [] G0 [] w0 → (Pt G0 A1 54 Tlattice_Lattice.d p0) → Calls Tryd.prog 20 #[.pointer A1] w0 (Ret w0 G0 [] fun G' L' v => L' = [] ∧ v = .int .i64 r)

theorem lattice_Lattice_Bottom.ok (k : Nat) : lattice_Lattice_Bottom.C (lattice_Lattice_Bottom k) := by
  intro p0 r hF w0 G0 A1 hI h2
  unfold lattice_Lattice_Bottom at hF
  refine calls_of_wp Tryd.func20 rfl ?_
  have hE : Env _ 26 [(0, .pointer A1)] := Env.start ⟨[.pointer A1]⟩ 25
  refine c_seq ?_; refine c_reg ?_; refine run tt_ok 1 hE rfl fun a hE => ?_; refine c_end ?_; refine xT ?_; refine c_seq ?_; refine c_seq ?_; refine c_reg ?_; refine run tt_ok 1 hE rfl fun a hE => ?_
  obtain ⟨y4, hy5, hF⟩ := bd hF; refine s_call0 cl_28 hI hE rfl rfl ((lattice_Lattice_is.ok k) _ _ _ hy5 _ _ _ hI.pass0 h2) rfl ?_; clear hE hI; rintro a w _ G7 _ ⟨rfl, rfl⟩ hg6 hI hE
  refine run tt_ok 1 hE rfl fun a hE => ?_; refine c_end ?_; refine xT ?_; refine c_if (b := !y4) hE rfl (fun hb68 => ?_) (fun hb68 => ?_)
  · replace hF := ct hb68 hF; refine c_seq ?_; refine c_reg ?_; refine run tt_ok 1 hE rfl fun a hE => ?_; refine c_end ?_; refine xT ?_; refine c_ret ?_; refine xTr ?_; cases hF
    refine r_ret (v := _) hE rfl ⟨_, _, _, rfl, hI.nil, rfl, rfl⟩
  replace hF := cf hb68 hF; refine c_skip ?_; refine xT ?_; refine c_seq ?_; refine c_reg ?_; refine run tt_ok 1 hE rfl fun a hE => ?_; refine c_end ?_; refine xT ?_; refine c_seq ?_; refine c_seq ?_; refine c_reg ?_
  refine run tt_ok 1 hE rfl fun a hE => ?_; rcases ((h2.mono hg6)).cases with ⟨hp14, rfl⟩ | ⟨y12, b13, cs, hp14, rfl, hR15, hA16⟩
  · cases op_n hp14 hF
  replace hF := op_s hp14 hF; obtain ⟨A17, c18, A20, A22, c23, A25, c26, rfl, h19, h21, h24, h27⟩ := Tlattice_Lattice.inv.1 hR15; refine run tt_ok 2 hE rfl fun a hE => ?_
  refine s_rt hI hE rfl (f_loadG tt_ok hA16 0 rfl rfl rfl rfl) rfl fun a hE => ?_; refine run tt_ok 2 hE rfl fun a hE => ?_; refine c_end ?_; refine xT ?_; obtain ⟨o48, hO49, hK50⟩ := bd hF; clear hF
  refine c_cut (fun a' w' => ∃ (s52 : Int) (G53 : GH), o48 = .go s52 ∧ G7.le G53 ∧ Env a' 26 [(3, .int .i64 s52)] ∧ Inv w0 G0 [] G53 [] w') ?_ ?_; rotate_left
  · clear hE hI hO49; rintro a w ⟨s52, G53, rfl, hg55, hE, hI⟩; have hF := lrk_go hK50; clear hK50; refine xT ?_; refine c_seq ?_; refine c_reg ?_; refine run tt_ok 2 hE rfl fun a hE => ?_; refine c_end ?_; refine xT ?_
    refine c_ret ?_; cases hF; refine r_ret (v := _) hE rfl ⟨_, _, _, rfl, hI.nil, rfl, rfl⟩
  refine c_block ?_
  refine wp_loop_ghost (fun n' a' w' => ∃ (i58 : Nat) (rest60 : List ByteArray) (s47 : Int) (G45 : GH), n' = rest60.length ∧ i58 ≤ y12.names_.length ∧ y12.names_.drop i58 = rest60 ∧ forL (lattice_Lattice_Bottom.b0 k y12) i58 rest60 s47 = some o48 ∧ G7.le G45 ∧ Env a' 26 [(13, .int .i64 (i58 : Int)), (0, .pointer (some ⟨b13, 0, none⟩)), (3, .int .i64 s47), (12, .int .i64 (y12.names_.length : Int))] ∧ Inv w0 G0 [] G45 [] w') _ ⟨0, _, _, G7, rfl, Nat.zero_le _, rfl, hO49, (GH.le.refl _), hE.keep ⟨rfl, rfl, rfl, rfl, trivial⟩, hI⟩ ?_
  clear hE hI hO49; rintro m57 a w ⟨i58, rest60, s47, G45, rfl, hi64, hd61, hO49, hg51, hE, hI⟩; rcases rest60 with _ | ⟨x59, rest60⟩
  · obtain rfl := forL_nil hO49; have hlt63 := drop_nil hd61 hi64; clear hd61; refine c_seq ?_; refine c_reg ?_; refine run tt_ok 1 hE rfl fun a hE => ?_; refine c_end ?_; refine xT ?_; refine c_seq ?_
    have hE := hE.tr (t := 14) rfl (decide_eq_false (by omega)); refine c_false hE rfl ?_; refine c_exit ?_; refine xTe ?_; refine xTe ?_; refine xBh ?_; refine xT ?_; exact ⟨_, G45, rfl, hg51, hE.keep ⟨rfl, trivial⟩, hI⟩
  obtain ⟨stp56, hF, hO49⟩ := forL_step hO49; obtain ⟨hx62, hd61, hlt63⟩ := drop_cons hd61; unfold lattice_Lattice_Bottom.b0 at hF; refine c_seq ?_; refine c_reg ?_; refine run tt_ok 1 hE rfl fun a hE => ?_; refine c_end ?_
  refine xT ?_; refine c_seq ?_; have hE := hE.tr (t := 14) rfl (decide_eq_true (by omega)); refine c_true hE rfl ?_; refine c_skip ?_; refine xT ?_; refine c_seq ?_; refine c_block ?_; refine c_seq ?_; refine c_reg ?_
  refine run tt_ok 2 hE rfl fun a hE => ?_; refine c_end ?_; refine xT ?_; refine c_reg ?_; refine run tt_ok 5 hE rfl fun a hE => ?_; obtain ⟨_, hb66, hF⟩ := bd hF
  refine s_rt hI hE rfl (f_aidx tt_ok ua_52 rfl rfl rfl rfl hb66) rfl fun a hE => ?_; obtain ⟨_, hb67, hF⟩ := bd hF; refine s_rt hI hE rfl (f_aidx tt_ok ua_51 rfl rfl rfl rfl hb67) rfl fun a hE => ?_
  refine s_rt hI hE rfl (f_loadG (off := 260 + s47.toNat * 16 + (i58 : Int).toNat * 1) tt_ok (hA16.mono hg51) rfl (Nat.zero_add _).symm rfl (ar_ld2 (pre := ([.slice A17 y12.names_.length c18, .map A20, .slice A22 y12.up_.length c23, .slice A25 y12.down_.length c26] ++ (arCells .i64 256 y12.join_ ++ []))) rfl (by simp [arCells]) (ar_ij hb66 hb67))) rfl fun a hE => ?_
  refine run tt_ok 1 hE rfl fun a hE => ?_; refine c_end ?_; refine xB ?_; refine xT ?_; refine c_reg ?_; refine run tt_ok 2 hE rfl fun a hE => ?_; refine c_end ?_; refine xT ?_; cases hF
  have hE := hE.setI (t := 13) rfl (w64_succ hlt63 (len_le h19)); exact ⟨rest60.length, Nat.lt_succ_self _, i58 + 1, rest60, _, G45, rfl, hlt63, hd61, hO49, hg51, hE.keep ⟨rfl, rfl, rfl, rfl, trivial⟩, hI⟩

theorem cl_21 : Callable Tryd.prog 21 := ⟨_, Tryd.func21, by kernel_rfl, by kernel_rfl⟩

def lattice_Lattice_Top.C (s : (Option Tlattice_Lattice) → Option Int) : Prop := ∀ (p0 : Option Tlattice_Lattice) (r : Int), s p0 = some r → ∀ (w0 : World) (G0 : GH) (A1 : Option Addr), Inv w0 G0 [] G0 [] w0 → (Pt G0 A1 54 Tlattice_Lattice.d p0) → Calls Tryd.prog 21 #[.pointer A1] w0 (Ret w0 G0 [] fun G' L' v => L' = [] ∧ v = .int .i64 r)

theorem lattice_Lattice_Top.ok (k : Nat) : lattice_Lattice_Top.C (lattice_Lattice_Top k) := by
  intro p0 r hF w0 G0 A1 hI h2
  unfold lattice_Lattice_Top at hF
  refine calls_of_wp Tryd.func21 rfl ?_
  have hE : Env _ 26 [(0, .pointer A1)] := Env.start ⟨[.pointer A1]⟩ 25
  refine c_seq ?_; refine c_reg ?_; refine run tt_ok 1 hE rfl fun a hE => ?_; refine c_end ?_; refine xT ?_; refine c_seq ?_; refine c_seq ?_; refine c_reg ?_; refine run tt_ok 1 hE rfl fun a hE => ?_
  obtain ⟨y4, hy5, hF⟩ := bd hF; refine s_call0 cl_28 hI hE rfl rfl ((lattice_Lattice_is.ok k) _ _ _ hy5 _ _ _ hI.pass0 h2) rfl ?_; clear hE hI; rintro a w _ G7 _ ⟨rfl, rfl⟩ hg6 hI hE
  refine run tt_ok 1 hE rfl fun a hE => ?_; refine c_end ?_; refine xT ?_; refine c_if (b := !y4) hE rfl (fun hb68 => ?_) (fun hb68 => ?_)
  · replace hF := ct hb68 hF; refine c_seq ?_; refine c_reg ?_; refine run tt_ok 1 hE rfl fun a hE => ?_; refine c_end ?_; refine xT ?_; refine c_ret ?_; refine xTr ?_; cases hF
    refine r_ret (v := _) hE rfl ⟨_, _, _, rfl, hI.nil, rfl, rfl⟩
  replace hF := cf hb68 hF; refine c_skip ?_; refine xT ?_; refine c_seq ?_; refine c_reg ?_; refine run tt_ok 1 hE rfl fun a hE => ?_; refine c_end ?_; refine xT ?_; refine c_seq ?_; refine c_seq ?_; refine c_reg ?_
  refine run tt_ok 1 hE rfl fun a hE => ?_; rcases ((h2.mono hg6)).cases with ⟨hp14, rfl⟩ | ⟨y12, b13, cs, hp14, rfl, hR15, hA16⟩
  · cases op_n hp14 hF
  replace hF := op_s hp14 hF; obtain ⟨A17, c18, A20, A22, c23, A25, c26, rfl, h19, h21, h24, h27⟩ := Tlattice_Lattice.inv.1 hR15; refine run tt_ok 2 hE rfl fun a hE => ?_
  refine s_rt hI hE rfl (f_loadG tt_ok hA16 0 rfl rfl rfl rfl) rfl fun a hE => ?_; refine run tt_ok 2 hE rfl fun a hE => ?_; refine c_end ?_; refine xT ?_; obtain ⟨o48, hO49, hK50⟩ := bd hF; clear hF
  refine c_cut (fun a' w' => ∃ (s52 : Int) (G53 : GH), o48 = .go s52 ∧ G7.le G53 ∧ Env a' 26 [(3, .int .i64 s52)] ∧ Inv w0 G0 [] G53 [] w') ?_ ?_; rotate_left
  · clear hE hI hO49; rintro a w ⟨s52, G53, rfl, hg55, hE, hI⟩; have hF := lrk_go hK50; clear hK50; refine xT ?_; refine c_seq ?_; refine c_reg ?_; refine run tt_ok 2 hE rfl fun a hE => ?_; refine c_end ?_; refine xT ?_
    refine c_ret ?_; cases hF; refine r_ret (v := _) hE rfl ⟨_, _, _, rfl, hI.nil, rfl, rfl⟩
  refine c_block ?_
  refine wp_loop_ghost (fun n' a' w' => ∃ (i58 : Nat) (rest60 : List ByteArray) (s47 : Int) (G45 : GH), n' = rest60.length ∧ i58 ≤ y12.names_.length ∧ y12.names_.drop i58 = rest60 ∧ forL (lattice_Lattice_Top.b0 k y12) i58 rest60 s47 = some o48 ∧ G7.le G45 ∧ Env a' 26 [(13, .int .i64 (i58 : Int)), (0, .pointer (some ⟨b13, 0, none⟩)), (3, .int .i64 s47), (12, .int .i64 (y12.names_.length : Int))] ∧ Inv w0 G0 [] G45 [] w') _ ⟨0, _, _, G7, rfl, Nat.zero_le _, rfl, hO49, (GH.le.refl _), hE.keep ⟨rfl, rfl, rfl, rfl, trivial⟩, hI⟩ ?_
  clear hE hI hO49; rintro m57 a w ⟨i58, rest60, s47, G45, rfl, hi64, hd61, hO49, hg51, hE, hI⟩; rcases rest60 with _ | ⟨x59, rest60⟩
  · obtain rfl := forL_nil hO49; have hlt63 := drop_nil hd61 hi64; clear hd61; refine c_seq ?_; refine c_reg ?_; refine run tt_ok 1 hE rfl fun a hE => ?_; refine c_end ?_; refine xT ?_; refine c_seq ?_
    have hE := hE.tr (t := 14) rfl (decide_eq_false (by omega)); refine c_false hE rfl ?_; refine c_exit ?_; refine xTe ?_; refine xTe ?_; refine xBh ?_; refine xT ?_; exact ⟨_, G45, rfl, hg51, hE.keep ⟨rfl, trivial⟩, hI⟩
  obtain ⟨stp56, hF, hO49⟩ := forL_step hO49; obtain ⟨hx62, hd61, hlt63⟩ := drop_cons hd61; unfold lattice_Lattice_Top.b0 at hF; refine c_seq ?_; refine c_reg ?_; refine run tt_ok 1 hE rfl fun a hE => ?_; refine c_end ?_
  refine xT ?_; refine c_seq ?_; have hE := hE.tr (t := 14) rfl (decide_eq_true (by omega)); refine c_true hE rfl ?_; refine c_skip ?_; refine xT ?_; refine c_seq ?_; refine c_block ?_; refine c_seq ?_; refine c_reg ?_
  refine run tt_ok 2 hE rfl fun a hE => ?_; refine c_end ?_; refine xT ?_; refine c_reg ?_; refine run tt_ok 5 hE rfl fun a hE => ?_; obtain ⟨_, hb66, hF⟩ := bd hF
  refine s_rt hI hE rfl (f_aidx tt_ok ua_52 rfl rfl rfl rfl hb66) rfl fun a hE => ?_; obtain ⟨_, hb67, hF⟩ := bd hF; refine s_rt hI hE rfl (f_aidx tt_ok ua_51 rfl rfl rfl rfl hb67) rfl fun a hE => ?_
  refine s_rt hI hE rfl (f_loadG (off := 4 + s47.toNat * 16 + (i58 : Int).toNat * 1) tt_ok (hA16.mono hg51) rfl (Nat.zero_add _).symm rfl (ar_ld2 (pre := [.slice A17 y12.names_.length c18, .map A20, .slice A22 y12.up_.length c23, .slice A25 y12.down_.length c26]) rfl (by simp [arCells]) (ar_ij hb66 hb67))) rfl fun a hE => ?_
  refine run tt_ok 1 hE rfl fun a hE => ?_; refine c_end ?_; refine xB ?_; refine xT ?_; refine c_reg ?_; refine run tt_ok 2 hE rfl fun a hE => ?_; refine c_end ?_; refine xT ?_; cases hF
  have hE := hE.setI (t := 13) rfl (w64_succ hlt63 (len_le h19)); exact ⟨rest60.length, Nat.lt_succ_self _, i58 + 1, rest60, _, G45, rfl, hlt63, hd61, hO49, hg51, hE.keep ⟨rfl, rfl, rfl, rfl, trivial⟩, hI⟩

theorem cl_4 : Callable Tryd.prog 4 := ⟨_, Tryd.func4, by kernel_rfl, by kernel_rfl⟩

def law03_LatticeNil.C (s : ByteArray → Int → Int → Option Bool) : Prop := ∀ (p0 : ByteArray) (p1 : Int) (p2 : Int) (r : Bool), s p0 p1 p2 = some r → ∀ (w0 : World) (G0 : GH) , Inv w0 G0 [] G0 [] w0 → (Gl0 G0) → Calls Tryd.prog 4 #[.string p0, .int .i64 p1, .int .i64 p2] w0 (Ret w0 G0 [] fun G' L' v => L' = [] ∧ v = .bool r)

theorem law03_LatticeNil.ok (k : Nat) : law03_LatticeNil.C (law03_LatticeNil k) := by
  intro p0 p1 p2 r hF w0 G0  hI hGl0
  unfold law03_LatticeNil at hF
  refine calls_of_wp Tryd.func4 rfl ?_
  have hE : Env _ 63 [(0, .string p0), (1, .int .i64 p1), (2, .int .i64 p2)] := Env.start ⟨[.string p0, .int .i64 p1, .int .i64 p2]⟩ 60
  refine c_seq ?_; refine c_reg ?_; refine run tt_ok 1 hE rfl fun a hE => ?_; refine c_end ?_; refine xT ?_; refine c_seq ?_; refine c_reg ?_; refine run tt_ok 1 hE rfl fun a hE => ?_; refine c_end ?_; refine xT ?_
  refine c_seq ?_; refine c_reg ?_; refine run tt_ok 2 hE rfl fun a hE => ?_; obtain ⟨y3, hy4, hF⟩ := bd hF
  refine s_call0 cl_18 hI hE rfl rfl ((lattice_Lattice_Find.ok k) _ _ _ hy4 _ _ _ hI.pass0 Pt.nil) rfl ?_; clear hE hI; rintro a w _ G6 _ ⟨rfl, rfl⟩ hg5 hI hE; refine run tt_ok 5 hE rfl fun a hE => ?_; refine c_end ?_
  refine xT ?_; refine c_seq ?_; obtain ⟨m54, hF, hR56⟩ := bd hF; refine c_cut (fun a' w' => ∃ (G52 : GH), G6.le G52 ∧ Env a' 63 [(6, .bool m54)] ∧ Inv w0 G0 [] G52 [] w') ?_ ?_; rotate_left
  · clear hE hI; rintro a w ⟨G52, hg55, hE, hI⟩; clear hF; have hF := hR56; clear hR56; refine xT ?_; refine c_ret ?_; cases hF; refine r_ret (v := _) hE rfl ⟨_, _, _, rfl, hI.nil, rfl, rfl⟩
  refine c_reg ?_; refine run tt_ok 3 hE rfl fun a hE => ?_; rcases bool_or (!y3.2) with hb57 | hb57; rotate_left
  · replace hF := cf hb57 hF; have hE := hE.tr (t := 18) rfl hb57; clear hb57; refine run tt_ok 45 hE rfl fun a hE => ?_; refine c_end ?_; refine xT ?_; cases hF; exact ⟨G6, (GH.le.refl _), hE.keep ⟨rfl, trivial⟩, hI⟩
  replace hF := ct hb57 hF; have hE := hE.tr (t := 18) rfl hb57; clear hb57; refine run tt_ok 1 hE rfl fun a hE => ?_; obtain ⟨y58, hy59, hF⟩ := bd hF
  refine s_call0 cl_19 hI hE rfl rfl ((lattice_Lattice_Levels.ok k) _ _ hy59 _ _ _ hI.pass0 Pt.nil) rfl ?_; clear hE hI; rintro a w _ G61 _ ⟨rfl, A62, c63, rfl, h64⟩ hg60 hI hE; refine run tt_ok 3 hE rfl fun a hE => ?_
  obtain ⟨y65, hy66, hF⟩ := bd hF; refine s_call0 cl_16 hI hE rfl rfl ((lattice_Lattice_Above.ok k) _ _ _ hy66 _ _ _ hI.pass0 (hGl0.mono (hg5.trans hg60)) Pt.nil) rfl ?_; clear hE hI
  rintro a w _ G68 _ ⟨rfl, A69, c70, rfl, h71⟩ hg67 hI hE; refine run tt_ok 5 hE rfl fun a hE => ?_; rcases bool_or (decide ((w64 ((y58.length : Int) + (y65.length : Int))) = (0 : Int))) with hb72 | hb72; rotate_left
  · replace hF := cf hb72 hF; have hE := hE.tr (t := 29) rfl hb72; clear hb72; refine run tt_ok 34 hE rfl fun a hE => ?_; refine c_end ?_; refine xT ?_; cases hF; exact ⟨G68, (hg60.trans hg67), hE.keep ⟨rfl, trivial⟩, hI⟩
  replace hF := ct hb72 hF; have hE := hE.tr (t := 29) rfl hb72; clear hb72; refine run tt_ok 3 hE rfl fun a hE => ?_; obtain ⟨y73, hy74, hF⟩ := bd hF
  refine s_call0 cl_9 hI hE rfl rfl ((lattice_Lattice_Leq.ok k) _ _ _ _ hy74 _ _ _ hI.pass0 Pt.nil) rfl ?_; clear hE hI; rintro a w _ G76 _ ⟨rfl, rfl⟩ hg75 hI hE; refine run tt_ok 3 hE rfl fun a hE => ?_
  rcases bool_or (!y73) with hb77 | hb77; rotate_left
  · replace hF := cf hb77 hF; have hE := hE.tr (t := 36) rfl hb77; clear hb77; refine run tt_ok 27 hE rfl fun a hE => ?_; refine c_end ?_; refine xT ?_; cases hF
    exact ⟨G76, ((hg60.trans hg67).trans hg75), hE.keep ⟨rfl, trivial⟩, hI⟩
  replace hF := ct hb77 hF; have hE := hE.tr (t := 36) rfl hb77; clear hb77; refine run tt_ok 3 hE rfl fun a hE => ?_; obtain ⟨y78, hy79, hF⟩ := bd hF
  refine s_call0 cl_11 hI hE rfl rfl ((lattice_Lattice_Join.ok k) _ _ _ _ hy79 _ _ _ hI.pass0 Pt.nil) rfl ?_; clear hE hI; rintro a w _ G81 _ ⟨rfl, rfl⟩ hg80 hI hE; refine run tt_ok 3 hE rfl fun a hE => ?_
  rcases bool_or (decide (y78 = (-1 : Int))) with hb82 | hb82; rotate_left
  · replace hF := cf hb82 hF; have hE := hE.tr (t := 43) rfl hb82; clear hb82; refine run tt_ok 20 hE rfl fun a hE => ?_; refine c_end ?_; refine xT ?_; cases hF
    exact ⟨G81, (((hg60.trans hg67).trans hg75).trans hg80), hE.keep ⟨rfl, trivial⟩, hI⟩
  replace hF := ct hb82 hF; have hE := hE.tr (t := 43) rfl hb82; clear hb82; refine run tt_ok 3 hE rfl fun a hE => ?_; obtain ⟨y83, hy84, hF⟩ := bd hF
  refine s_call0 cl_13 hI hE rfl rfl ((lattice_Lattice_Meet.ok k) _ _ _ _ hy84 _ _ _ hI.pass0 Pt.nil) rfl ?_; clear hE hI; rintro a w _ G86 _ ⟨rfl, rfl⟩ hg85 hI hE; refine run tt_ok 3 hE rfl fun a hE => ?_
  rcases bool_or (decide (y83 = (-1 : Int))) with hb87 | hb87; rotate_left
  · replace hF := cf hb87 hF; have hE := hE.tr (t := 50) rfl hb87; clear hb87; refine run tt_ok 13 hE rfl fun a hE => ?_; refine c_end ?_; refine xT ?_; cases hF
    exact ⟨G86, ((((hg60.trans hg67).trans hg75).trans hg80).trans hg85), hE.keep ⟨rfl, trivial⟩, hI⟩
  replace hF := ct hb87 hF; have hE := hE.tr (t := 50) rfl hb87; clear hb87; refine run tt_ok 1 hE rfl fun a hE => ?_; obtain ⟨y88, hy89, hF⟩ := bd hF
  refine s_call0 cl_20 hI hE rfl rfl ((lattice_Lattice_Bottom.ok k) _ _ hy89 _ _ _ hI.pass0 Pt.nil) rfl ?_; clear hE hI; rintro a w _ G91 _ ⟨rfl, rfl⟩ hg90 hI hE; refine run tt_ok 3 hE rfl fun a hE => ?_
  rcases bool_or (decide (y88 = (-1 : Int))) with hb92 | hb92; rotate_left
  · replace hF := cf hb92 hF; have hE := hE.tr (t := 55) rfl hb92; clear hb92; refine run tt_ok 8 hE rfl fun a hE => ?_; refine c_end ?_; refine xT ?_; cases hF
    exact ⟨G91, (((((hg60.trans hg67).trans hg75).trans hg80).trans hg85).trans hg90), hE.keep ⟨rfl, trivial⟩, hI⟩
  replace hF := ct hb92 hF; have hE := hE.tr (t := 55) rfl hb92; clear hb92; refine run tt_ok 1 hE rfl fun a hE => ?_; obtain ⟨y93, hy94, hF⟩ := bd hF
  refine s_call0 cl_21 hI hE rfl rfl ((lattice_Lattice_Top.ok k) _ _ hy94 _ _ _ hI.pass0 Pt.nil) rfl ?_; clear hE hI; rintro a w _ G96 _ ⟨rfl, rfl⟩ hg95 hI hE; refine run tt_ok 3 hE rfl fun a hE => ?_
  rcases bool_or (decide (y93 = (-1 : Int))) with hb97 | hb97; rotate_left
  · replace hF := cf hb97 hF; have hE := hE.tr (t := 60) rfl hb97; clear hb97; refine run tt_ok 3 hE rfl fun a hE => ?_; refine c_end ?_; refine xT ?_; cases hF
    exact ⟨G96, ((((((hg60.trans hg67).trans hg75).trans hg80).trans hg85).trans hg90).trans hg95), hE.keep ⟨rfl, trivial⟩, hI⟩
  replace hF := ct hb97 hF; have hE := hE.tr (t := 60) rfl hb97; clear hb97; obtain ⟨y98, hy99, hF⟩ := bd hF; refine s_call0 cl_6 hI hE rfl rfl ((law03_alive.ok k) _ hy99 _ _  hI.pass0 ) rfl ?_; clear hE hI
  rintro a w _ G101 _ ⟨rfl, rfl⟩ hg100 hI hE; refine run tt_ok 2 hE rfl fun a hE => ?_; refine c_end ?_; refine xT ?_; cases hF
  exact ⟨G101, (((((((hg60.trans hg67).trans hg75).trans hg80).trans hg85).trans hg90).trans hg95).trans hg100), hE.keep ⟨rfl, trivial⟩, hI⟩
end Go.Proofs.YtliaopbgkcdibaaDoor
