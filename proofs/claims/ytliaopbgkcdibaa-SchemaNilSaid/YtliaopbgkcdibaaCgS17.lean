/- The contracts: what the machine does at a call is what the plain function says. Written by mk.py. -/
import Derived.Test.YtliaopbgkcdibaaCgS0
import Derived.Test.YtliaopbgkcdibaaCgS7
import Derived.Test.YtliaopbgkcdibaaCgS8
import Derived.Test.YtliaopbgkcdibaaCgS16
set_option linter.unusedVariables false
set_option linter.unusedSimpArgs false
set_option maxRecDepth 100000
namespace Go.Proofs.Ytliaopbgkcdibaa
open Go.RowKit
theorem cl_101 : Callable Try.prog 101 := ⟨_, Try.func101, by kernel_rfl, by kernel_rfl⟩

def ref06_P_End.C (s : Tref06_P → Option (Int × Int × Tref06_P)) : Prop := ∀ (p0 : Tref06_P) (r : Int × Int × Tref06_P), s p0 = some r → ∀ (w0 : World) (G0 : GH) (D0 : List Nat) (b1 : Nat) (A2 : Option Addr) (c3 : Nat), Inv w0 G0 D0 G0 [.blk b1 [.slice A2 p0.T.length c3, .int .i64 p0.I, .int .i64 p0.Deep, .int .i64 p0.At, .int .i64 p0.E] 153] w0 → (Sl G0 A2 c3 4 (p0.T.map TToken.d)) → Calls Try.prog 101 #[.pointer (some ⟨b1, 0, none⟩)] w0 (Ret w0 G0 D0 fun G' L' v => L' = [.blk b1 [.slice A2 p0.T.length c3, .int .i64 p0.I, .int .i64 p0.Deep, .int .i64 r.2.2.At, .int .i64 r.2.2.E] 153] ∧ v = .tuple ⟨[.int .i64 r.1, .int .i64 r.2.1]⟩)

theorem ref06_P_End.ok (k : Nat) : ref06_P_End.C (ref06_P_End k) := by
  intro p0 r hF w0 G0 D0 b1 A2 c3 hI h4
  unfold ref06_P_End at hF
  refine calls_of_wp Try.func101 rfl ?_
  have hE : Env _ 38 [(0, .pointer (some ⟨b1, 0, none⟩))] := Env.start ⟨[.pointer (some ⟨b1, 0, none⟩)]⟩ 37
  refine c_seq ?_; refine c_reg ?_; refine run tt_ok 2 hE rfl fun a hE => ?_; refine c_end ?_; refine xT ?_; refine c_seq ?_; refine c_seq ?_; obtain ⟨m16, hF, hR18⟩ := bd hF
  refine c_cut (fun a' w' => ∃ (G14 : GH), G0.le G14 ∧ Env a' 38 [(0, .pointer (some ⟨b1, 0, none⟩)), (22, .bool m16)] ∧ Inv w0 G0 D0 G14 [.blk b1 [.slice A2 p0.T.length c3, .int .i64 p0.I, .int .i64 p0.Deep, .int .i64 p0.At, .int .i64 p0.E] 153] w') ?_ ?_
  · refine c_draw mixed (by kernel_rfl) hI ?_; clear hI; refine runq tt_ok 3 hE rfl fun a hE => ?_; refine q_rt hE rfl (f_loadB tt_ok 0 rfl rfl rfl rfl) rfl fun a hE => ?_; refine runq tt_ok 2 hE rfl fun a hE => ?_
    rcases bool_or (decide (p0.E = (0 : Int))) with hb39 | hb39; rotate_left
    · replace hF := cf hb39 hF; have hE := hE.tr (t := 9) rfl hb39; clear hb39; refine runq tt_ok 13 hE rfl fun a hE => ?_; refine q_end ?_; intro w hI; refine xT ?_; cases hF
      exact ⟨G0, (GH.le.refl _), hE.keep ⟨rfl, rfl, trivial⟩, hI⟩
    replace hF := ct hb39 hF; have hE := hE.tr (t := 9) rfl hb39; clear hb39; refine runq tt_ok 3 hE rfl fun a hE => ?_; refine q_rt hE rfl (f_loadB tt_ok 0 rfl rfl rfl rfl) rfl fun a hE => ?_
    refine runq tt_ok 3 hE rfl fun a hE => ?_; refine q_rt hE rfl (f_loadB tt_ok 0 rfl rfl rfl rfl) rfl fun a hE => ?_; obtain ⟨y44, hy45, hF⟩ := bd hF
    obtain ⟨b40, o41, cs, hb46, hR43, hA42⟩ := sl_at h4 (getO_some hy45).1 (getO_some hy45).2; obtain rfl := TToken.inv.1 hR43; refine q_rt hE rfl (f_idx tt_ok hb46 rfl rfl rfl) rfl fun a hE => ?_
    refine runq tt_ok 1 hE rfl fun a hE => ?_; refine q_rt hE rfl (f_loadG tt_ok hA42 0 rfl rfl rfl rfl) rfl fun a hE => ?_; refine runq tt_ok 2 hE rfl fun a hE => ?_; refine q_end ?_; intro w hI; refine xT ?_; cases hF
    exact ⟨G0, (GH.le.refl _), hE.keep ⟨rfl, rfl, trivial⟩, hI⟩
  clear hE hI; rintro a w ⟨G14, hg17, hE, hI⟩; clear hF; have hF := hR18; clear hR18; refine xT ?_; obtain ⟨m27, hF, hR29⟩ := bd hF
  refine c_cut (fun a' w' => ∃ (G24 : GH), G14.le G24 ∧ Env a' 38 [(0, .pointer (some ⟨b1, 0, none⟩))] ∧ Inv w0 G0 D0 G24 [.blk b1 [.slice A2 p0.T.length c3, .int .i64 p0.I, .int .i64 p0.Deep, .int .i64 m27.1, .int .i64 m27.2] 153] w') ?_ ?_
  · refine c_if (b := m16) hE rfl (fun hb38 => ?_) (fun hb38 => ?_); rotate_left
    · replace hF := cf hb38 hF; refine c_skip ?_; refine xT ?_; cases hF; exact ⟨G14, (GH.le.refl _), hE.keep ⟨rfl, trivial⟩, hI⟩
    replace hF := ct hb38 hF; refine c_reg ?_; refine run tt_ok 1 hE rfl fun a hE => ?_; obtain ⟨y34, hy35, hF⟩ := bd hF
    refine s_callM [.blk b1 [.slice A2 p0.T.length c3, .int .i64 p0.I, .int .i64 p0.Deep, .int .i64 p0.At, .int .i64 p0.E] 153] [] cl_118 hI hE rfl rfl (fun hIp => (ref06_P_bad.ok k) _ _ _ hy35 _ _ _ _ _ _ hIp (h4.mono hg17)) rfl ?_; clear hE hI
    rintro a w _ G37 _ ⟨rfl, rfl⟩ hg36 hI hE; refine c_end ?_; refine xT ?_; cases hF; exact ⟨G37, hg36, hE.keep ⟨rfl, trivial⟩, hI⟩
  clear hE hI; rintro a w ⟨G24, hg28, hE, hI⟩; clear hF; have hF := hR29; clear hR29; refine xT ?_; refine c_seq ?_; refine c_seq ?_; refine c_reg ?_; refine run tt_ok 3 hE rfl fun a hE => ?_
  refine s_rt hI hE rfl (f_loadB tt_ok 0 rfl rfl rfl rfl) rfl fun a hE => ?_; refine run tt_ok 1 hE rfl fun a hE => ?_; refine c_end ?_; refine xT ?_
  refine c_if (b := decide (m27.2 = (0 : Int))) hE rfl (fun hb33 => ?_) (fun hb33 => ?_)
  · replace hF := ct hb33 hF; refine c_seq ?_; refine c_reg ?_; refine run tt_ok 2 hE rfl fun a hE => ?_; refine c_end ?_; refine xT ?_; refine c_ret ?_; refine xTr ?_; cases hF
    refine r_ret (v := _) hE rfl ⟨_, _, _, rfl, hI, rfl, rfl⟩
  replace hF := cf hb33 hF; refine c_skip ?_; refine xT ?_; refine c_seq ?_; refine c_draw mixed (by kernel_rfl) hI ?_; clear hI; refine runq tt_ok 3 hE rfl fun a hE => ?_
  refine q_rt hE rfl (f_loadB tt_ok 0 rfl rfl rfl rfl) rfl fun a hE => ?_; refine runq tt_ok 3 hE rfl fun a hE => ?_; refine q_rt hE rfl (f_loadB tt_ok 0 rfl rfl rfl rfl) rfl fun a hE => ?_
  refine runq tt_ok 2 hE rfl fun a hE => ?_; refine q_end ?_; intro w hI; refine xT ?_; refine c_ret ?_; cases hF; refine r_ret (v := _) hE rfl ⟨_, _, _, rfl, hI, rfl, rfl⟩

theorem cl_86 : Callable Try.prog 86 := ⟨_, Try.func86, by kernel_rfl, by kernel_rfl⟩

def ref06_Schema.C (s : ByteArray → Option (TSchema × Int × Int)) : Prop := ∀ (p0 : ByteArray) (r : TSchema × Int × Int), s p0 = some r → ∀ (w0 : World) (G0 : GH) , Inv w0 G0 [] G0 [] w0 → Calls Try.prog 86 #[.string p0] w0 (Ret w0 G0 [] fun G' L' v => L' = [] ∧ ∃ cs0, v = .tuple ⟨[.agg ⟨cs0⟩, .int .i64 r.2.1, .int .i64 r.2.2]⟩ ∧ Rep G' r.1.d cs0)

theorem ref06_Schema.ok (k : Nat) : ref06_Schema.C (ref06_Schema k) := by
  intro p0 r hF w0 G0  hI 
  unfold ref06_Schema at hF
  refine calls_of_wp Try.func86 rfl ?_
  have hE : Env _ 38 [(0, .string p0)] := Env.start ⟨[.string p0]⟩ 37
  refine c_seq ?_; refine c_reg ?_; refine s_alloc hI hE rfl z_125 rfl rfl fun a w b1 hE hI => ?_; refine run tt_ok 2 hE rfl fun a hE => ?_; refine c_end ?_; refine xT ?_; refine c_seq ?_; refine c_reg ?_
  refine run tt_ok 1 hE rfl fun a hE => ?_; obtain ⟨y2, hy3, hF⟩ := bd hF; refine s_call0 cl_99 hI hE rfl rfl ((ref06_New.ok k) _ _ _ hy3 _ _  hI.pass0 ) rfl ?_; clear hE hI
  rintro a w _ G5 _ ⟨b6, A7, c8, rfl, rfl, h9⟩ hg4 hI hE; refine run tt_ok 1 hE rfl fun a hE => ?_; refine c_end ?_; refine xT ?_; refine c_seq ?_; refine c_seq ?_; refine c_reg ?_; refine run tt_ok 3 hE rfl fun a hE => ?_
  refine s_rt hI hE rfl (f_loadB tt_ok 0 rfl rfl rfl rfl) rfl fun a hE => ?_; refine run tt_ok 1 hE rfl fun a hE => ?_; refine c_end ?_; refine xT ?_
  refine c_if (b := !decide (y2.E = (0 : Int))) hE rfl (fun hb99 => ?_) (fun hb99 => ?_)
  · replace hF := ct hb99 hF; refine c_seq ?_
    refine c_mix [] (.step 0 0 (.step 1 0 (.step 2 0 (.step 3 0 (.step 4 1 (.step 5 0 (.step 6 0 (.step 7 0 (.step 8 1 (.step 9 2 (.step 10 0 (.step 11 0 .nil)))))))))))) [.blk b6 [.slice A7 y2.T.length c8, .int .i64 y2.I, .int .i64 y2.Deep, .int .i64 y2.At, .int .i64 y2.E] 153] mixed (by kernel_rfl) hI ?_; clear hI; intro w hI
    have hS := hI.sw (Ls := [.blk b6 [.slice A7 y2.T.length c8, .int .i64 y2.I, .int .i64 y2.Deep, .int .i64 y2.At, .int .i64 y2.E] 153]) [0] (by decide) rfl (GH.le.refl _)
    refine d_rt hE rfl rfl (f_build tt_ok rfl z_125 rfl rfl) rfl fun a hE => ?_; refine mix_run tt_ok 3 hE rfl fun a hE => ?_; refine d_ld hS hE rfl rfl (RT.sw fun _ => (f_loadB tt_ok 0 rfl rfl rfl rfl)) rfl fun a hE => ?_
    refine mix_run tt_ok 3 hE rfl fun a hE => ?_; refine d_ld hS hE rfl rfl (RT.sw fun _ => (f_loadB tt_ok 0 rfl rfl rfl rfl)) rfl fun a hE => ?_; refine d_eff rfl ?_
    refine s_storeB tt_ok 1 hI hE rfl rfl rfl rfl rfl rfl rfl rfl rfl rfl fun a w hE hI => ?_
    have hS := hI.sw (Ls := [.blk b6 [.slice A7 y2.T.length c8, .int .i64 y2.I, .int .i64 y2.Deep, .int .i64 y2.At, .int .i64 y2.E] 153]) [0] (by decide) rfl (GH.le.refl _); refine d_next hS ?_
    refine mix_run tt_ok 2 hE rfl fun a hE => ?_; refine d_end ?_; refine xT ?_; refine c_ret ?_; refine xTr ?_; cases hF
    refine r_retC tt_ok hE hI (.cell 1 rfl rfl rfl rfl (.tmp rfl (.tmp rfl .nil))) rfl ⟨_, _, _, rfl, hI.nil, rfl, _, rfl, ((TSchema.inv (x := (TSchema.mk [] [] [] [] [] (0 : Int)))).2 ⟨none, 0, none, 0, none, 0, none, 0, none, 0, rfl, (Sl.nil _ _ _ _ (Nat.zero_le _)), (Sl.nil _ _ _ _ (Nat.zero_le _)), (Sl.nil _ _ _ _ (Nat.zero_le _)), (Sl.nil _ _ _ _ (Nat.zero_le _)), (Sl.nil _ _ _ _ (Nat.zero_le _))⟩)⟩
  replace hF := cf hb99 hF; refine c_skip ?_; refine xT ?_; refine c_seq ?_; refine c_reg ?_; refine run tt_ok 1 hE rfl fun a hE => ?_; obtain ⟨y29, hy30, hF⟩ := bd hF
  refine s_callM [.blk b6 [.slice A7 y2.T.length c8, .int .i64 y2.I, .int .i64 y2.Deep, .int .i64 y2.At, .int .i64 y2.E] 153] [.blk b1 [.slice none 0 0, .slice none 0 0, .slice none 0 0, .slice none 0 0, .slice none 0 0, .int .i64 (0 : Int)] 125] cl_100 hI hE rfl rfl (fun hIp => (ref06_P_Schema.ok k) _ _ hy30 _ _ _ _ _ _ hIp h9) rfl ?_; clear hE hI
  rintro a w _ G32 _ ⟨cshR48, rfl, rfl, hR48⟩ hg31 hI hE; obtain ⟨A33, c34, A36, c37, A39, c40, A42, c43, A45, c46, rfl, h35, h38, h41, h44, h47⟩ := TSchema.inv.1 hR48
  refine s_alloc hI hE rfl z_125 rfl rfl fun a w b49 hE hI => ?_; refine s_storeB tt_ok 0 hI hE rfl rfl rfl rfl rfl rfl rfl rfl rfl rfl fun a w hE hI => ?_; refine c_end ?_; refine xT ?_; refine c_seq ?_; refine c_reg ?_
  refine run tt_ok 1 hE rfl fun a hE => ?_; have hI := hI.pick [1, 0, 2] (by decide) rfl; obtain ⟨y52, hy53, hF⟩ := bd hF
  refine s_callM [.blk b6 [.slice A7 y2.T.length c8, .int .i64 y29.2.I, .int .i64 y29.2.Deep, .int .i64 y29.2.At, .int .i64 y29.2.E] 153] [.blk b49 [.slice A33 y29.1.Levels.length c34, .slice A36 y29.1.Edges.length c37, .slice A39 y29.1.Tables.length c40, .slice A42 y29.1.Channels.length c43, .slice A45 y29.1.Principals.length c46, .int .i64 y29.1.Limit] 125, .blk b1 [.slice none 0 0, .slice none 0 0, .slice none 0 0, .slice none 0 0, .slice none 0 0, .int .i64 (0 : Int)] 125] cl_101 hI hE rfl rfl (fun hIp => (ref06_P_End.ok k) _ _ hy53 _ _ _ _ _ _ hIp (h9.mono hg31)) rfl ?_; clear hE hI
  rintro a w _ G55 _ ⟨rfl, rfl⟩ hg54 hI hE; refine run tt_ok 5 hE rfl fun a hE => ?_; refine c_end ?_; refine xT ?_; refine c_seq ?_; refine c_seq ?_; refine c_reg ?_; refine run tt_ok 2 hE rfl fun a hE => ?_
  refine c_end ?_; refine xT ?_; obtain ⟨m79, hF, hR81⟩ := bd hF
  refine c_cut (fun a' w' => ∃ (G57 : GH) (A59 : Option Addr) (c60 : Nat) (A63 : Option Addr) (c64 : Nat) (A67 : Option Addr) (c68 : Nat) (A71 : Option Addr) (c72 : Nat) (A75 : Option Addr) (c76 : Nat), G55.le G57 ∧ Env a' 38 [(2, .pointer (some ⟨b1, 0, none⟩)), (6, .pointer (some ⟨b49, 0, none⟩)), (7, .int .i64 y52.1), (8, .int .i64 y52.2.1)] ∧ Inv w0 G0 [] G57 [.blk b49 [.slice A59 m79.1.length c60, .slice A63 m79.2.1.length c64, .slice A67 m79.2.2.1.length c68, .slice A71 m79.2.2.2.1.length c72, .slice A75 m79.2.2.2.2.1.length c76, .int .i64 m79.2.2.2.2.2] 125, .blk b1 [.slice none 0 0, .slice none 0 0, .slice none 0 0, .slice none 0 0, .slice none 0 0, .int .i64 (0 : Int)] 125] w' ∧ Sl G57 A59 c60 1 (m79.1.map D.str) ∧ Sl G57 A63 c64 2 (m79.2.1.map TPair.d) ∧ Sl G57 A67 c68 6 (m79.2.2.1.map TTable.d) ∧ Sl G57 A71 c72 2 (m79.2.2.2.1.map TPair.d) ∧ Sl G57 A75 c76 2 (m79.2.2.2.2.1.map TPair.d)) ?_ ?_
  rotate_left
  · clear hE hI; rintro a w ⟨G57, A59, c60, A63, c64, A67, c68, A71, c72, A75, c76, hg80, hE, hI, h61, h65, h69, h73, h77⟩; clear hF; have hF := hR81; clear hR81; refine xT ?_; refine c_seq ?_; refine c_reg ?_
    refine s_rt hI hE rfl (f_loadB tt_ok 0 rfl rfl rfl rfl) rfl fun a hE => ?_; refine run tt_ok 2 hE rfl fun a hE => ?_; refine s_storeB tt_ok 1 hI hE rfl rfl rfl rfl rfl rfl rfl rfl rfl rfl fun a w hE hI => ?_
    refine run tt_ok 2 hE rfl fun a hE => ?_; refine c_end ?_; refine xT ?_; refine c_ret ?_; cases hF
    refine r_retC tt_ok hE hI (.cell 1 rfl rfl rfl rfl (.tmp rfl (.tmp rfl .nil))) rfl ⟨_, _, _, rfl, hI.nil, rfl, _, rfl, ((TSchema.inv (x := (TSchema.mk m79.1 m79.2.1 m79.2.2.1 m79.2.2.2.1 m79.2.2.2.2.1 m79.2.2.2.2.2))).2 ⟨A59, c60, A63, c64, A67, c68, A71, c72, A75, c76, rfl, h61, h65, h69, h73, h77⟩)⟩
  refine c_if (b := !decide (y52.2.1 = (0 : Int))) hE rfl (fun hb98 => ?_) (fun hb98 => ?_); rotate_left
  · replace hF := cf hb98 hF; refine c_skip ?_; refine xT ?_; cases hF
    exact ⟨G55, A33, c34, A36, c37, A39, c40, A42, c43, A45, c46, (GH.le.refl _), hE.keep ⟨rfl, rfl, rfl, rfl, trivial⟩, (hI.dropN 1 rfl), (h35.mono hg54), (h38.mono hg54), (h41.mono hg54), (h44.mono hg54), (h47.mono hg54)⟩
  replace hF := ct hb98 hF; refine c_reg ?_; refine s_rt hI hE rfl (f_build tt_ok rfl z_125 rfl rfl) rfl fun a hE => ?_; refine s_storeB tt_ok 1 hI hE rfl rfl rfl rfl rfl rfl rfl rfl rfl rfl fun a w hE hI => ?_
  refine c_end ?_; refine xT ?_; cases hF
  exact ⟨G55, none, 0, none, 0, none, 0, none, 0, none, 0, (GH.le.refl _), hE.keep ⟨rfl, rfl, rfl, rfl, trivial⟩, (hI.dropN 1 rfl), (Sl.nil _ _ _ _ (Nat.zero_le _)), (Sl.nil _ _ _ _ (Nat.zero_le _)), (Sl.nil _ _ _ _ (Nat.zero_le _)), (Sl.nil _ _ _ _ (Nat.zero_le _)), (Sl.nil _ _ _ _ (Nat.zero_le _))⟩

theorem cl_76 : Callable Try.prog 76 := ⟨_, Try.func76, by kernel_rfl, by kernel_rfl⟩

def law08_Example.C (s : ByteArray → Option TSchema) : Prop := ∀ (p0 : ByteArray) (r : TSchema), s p0 = some r → ∀ (w0 : World) (G0 : GH) , Inv w0 G0 [] G0 [] w0 → Calls Try.prog 76 #[.string p0] w0 (Ret w0 G0 [] fun G' L' v => L' = [] ∧ ∃ cs0, v = .agg ⟨cs0⟩ ∧ Rep G' r.d cs0)

theorem law08_Example.ok (k : Nat) : law08_Example.C (law08_Example k) := by
  intro p0 r hF w0 G0  hI 
  unfold law08_Example at hF
  refine calls_of_wp Try.func76 rfl ?_
  have hE : Env _ 15 [(0, .string p0)] := Env.start ⟨[.string p0]⟩ 14
  refine c_seq ?_; refine c_reg ?_; refine s_alloc hI hE rfl z_125 rfl rfl fun a w b1 hE hI => ?_; refine c_end ?_; refine xT ?_; refine c_seq ?_; refine c_reg ?_; refine run tt_ok 1 hE rfl fun a hE => ?_
  obtain ⟨_, hz22, hF⟩ := bd hF; refine s_rt hI hE rfl (f_scat hz22 rfl rfl) rfl fun a hE => ?_; obtain ⟨_, hz23, hF⟩ := bd hF; refine s_rt hI hE rfl (f_scat hz23 rfl rfl) rfl fun a hE => ?_; obtain ⟨y24, hy25, hF⟩ := bd hF
  refine s_call0 cl_86 hI hE rfl rfl ((ref06_Schema.ok k) _ _ hy25 _ _  hI.pass0 ) rfl ?_; clear hE hI; rintro a w _ G27 _ ⟨rfl, cshR43, rfl, hR43⟩ hg26 hI hE
  obtain ⟨A28, c29, A31, c32, A34, c35, A37, c38, A40, c41, rfl, h30, h33, h36, h39, h42⟩ := TSchema.inv.1 hR43; refine run tt_ok 4 hE rfl fun a hE => ?_; refine s_alloc hI hE rfl z_125 rfl rfl fun a w b44 hE hI => ?_
  refine s_storeB tt_ok 0 hI hE rfl rfl rfl rfl rfl rfl rfl rfl rfl rfl fun a w hE hI => ?_; refine run tt_ok 2 hE rfl fun a hE => ?_; refine c_end ?_; refine xT ?_; refine c_seq ?_; refine c_reg ?_
  refine s_rt hI hE rfl (f_loadB tt_ok 0 rfl rfl rfl rfl) rfl fun a hE => ?_; refine s_storeB tt_ok 1 hI hE rfl rfl rfl rfl rfl rfl rfl rfl rfl rfl fun a w hE hI => ?_; refine c_end ?_; refine xT ?_; refine c_ret ?_
  cases hF; refine r_retC tt_ok hE hI (.cell 1 rfl rfl rfl rfl .nil) rfl ⟨_, _, _, rfl, hI.nil, rfl, _, rfl, (TSchema.inv.2 ⟨A28, c29, A31, c32, A34, c35, A37, c38, A40, c41, rfl, h30, h33, h36, h39, h42⟩)⟩

theorem cl_40 : Callable Try.prog 40 := ⟨_, Try.func40, by kernel_rfl, by kernel_rfl⟩

def law08_alive.C (s : Option Bool) : Prop := ∀  (r : Bool), s  = some r → ∀ (w0 : World) (G0 : GH) , Inv w0 G0 [] G0 [] w0 → Calls Try.prog 40 #[] w0 (Ret w0 G0 [] fun G' L' v => L' = [] ∧ v = .bool r)

theorem law08_alive.ok (k : Nat) : law08_alive.C (law08_alive k) := by
  intro  r hF w0 G0  hI 
  unfold law08_alive at hF
  refine calls_of_wp Try.func40 rfl ?_
  have hE : Env _ 73 [] := Env.start ⟨[]⟩ 73
  refine c_seq ?_; refine c_reg ?_; refine run tt_ok 1 hE rfl fun a hE => ?_; refine c_end ?_; refine xT ?_; refine c_seq ?_; refine c_reg ?_; obtain ⟨y22, hy23, hF⟩ := bd hF
  refine s_call0 cl_76 hI hE rfl rfl ((law08_Example.ok k) _ _ hy23 _ _  hI.pass0 ) rfl ?_; clear hE hI; rintro a w _ G25 _ ⟨rfl, cshR41, rfl, hR41⟩ hg24 hI hE
  obtain ⟨A26, c27, A29, c30, A32, c33, A35, c36, A38, c39, rfl, h28, h31, h34, h37, h40⟩ := TSchema.inv.1 hR41; obtain ⟨y42, hy43, hF⟩ := bd hF
  refine s_call0 cl_75 hI hE rfl rfl ((schema_New.ok k) _ _ hy43 _ _ _ hI.pass0 (TSchema.inv.2 ⟨A26, c27, A29, c30, A32, c33, A35, c36, A38, c39, rfl, h28, h31, h34, h37, h40⟩)) rfl ?_; clear hE hI
  rintro a w _ G45 _ ⟨rfl, A46, rfl, h47⟩ hg44 hI hE; refine run tt_ok 7 hE rfl fun a hE => ?_; refine c_end ?_; refine xT ?_; refine c_seq ?_; refine c_reg ?_; obtain ⟨y69, hy70, hF⟩ := bd hF
  refine s_call0 cl_76 hI hE rfl rfl ((law08_Example.ok k) _ _ hy70 _ _  hI.pass0 ) rfl ?_; clear hE hI; rintro a w _ G72 _ ⟨rfl, cshR88, rfl, hR88⟩ hg71 hI hE
  obtain ⟨A73, c74, A76, c77, A79, c80, A82, c83, A85, c86, rfl, h75, h78, h81, h84, h87⟩ := TSchema.inv.1 hR88; obtain ⟨y89, hy90, hF⟩ := bd hF
  refine s_call0 cl_75 hI hE rfl rfl ((schema_New.ok k) _ _ hy90 _ _ _ hI.pass0 (TSchema.inv.2 ⟨A73, c74, A76, c77, A79, c80, A82, c83, A85, c86, rfl, h75, h78, h81, h84, h87⟩)) rfl ?_; clear hE hI
  rintro a w _ G92 _ ⟨rfl, A93, rfl, h94⟩ hg91 hI hE; refine run tt_ok 7 hE rfl fun a hE => ?_; refine c_end ?_; refine xT ?_; refine c_seq ?_; refine c_seq ?_; obtain ⟨m101, hF, hR103⟩ := bd hF
  refine c_cut (fun a' w' => ∃ (G99 : GH), G92.le G99 ∧ Env a' 73 [(1, .pointer A46), (35, .bool m101)] ∧ Inv w0 G0 [] G99 [] w') ?_ ?_
  · refine c_reg ?_; refine run tt_ok 1 hE rfl fun a hE => ?_; refine s_rt hI hE rfl (f_pnil up_63 (h47.mono (hg71.trans hg91)) rfl rfl) rfl fun a hE => ?_; refine run tt_ok 1 hE rfl fun a hE => ?_
    rcases bool_or y42.1.isNone with hb205 | hb205
    · replace hF := ct hb205 hF; have hE := hE.tr (t := 24) rfl hb205; clear hb205; refine run tt_ok 11 hE rfl fun a hE => ?_; refine c_end ?_; refine xT ?_; cases hF
      exact ⟨G92, (GH.le.refl _), hE.keep ⟨rfl, rfl, trivial⟩, hI⟩
    replace hF := cf hb205 hF; have hE := hE.tr (t := 24) rfl hb205; clear hb205; refine run tt_ok 4 hE rfl fun a hE => ?_; rcases bool_or (!decide (y42.2.2 = (0 : Int))) with hb206 | hb206
    · replace hF := ct hb206 hF; have hE := hE.tr (t := 28) rfl hb206; clear hb206; refine run tt_ok 7 hE rfl fun a hE => ?_; refine c_end ?_; refine xT ?_; cases hF; exact ⟨G92, (GH.le.refl _), hE.keep ⟨rfl, rfl, trivial⟩, hI⟩
    replace hF := cf hb206 hF; have hE := hE.tr (t := 28) rfl hb206; clear hb206; refine run tt_ok 4 hE rfl fun a hE => ?_; rcases bool_or (!decide (y89.2.2 = (15 : Int))) with hb207 | hb207
    · replace hF := ct hb207 hF; have hE := hE.tr (t := 32) rfl hb207; clear hb207; refine run tt_ok 3 hE rfl fun a hE => ?_; refine c_end ?_; refine xT ?_; cases hF; exact ⟨G92, (GH.le.refl _), hE.keep ⟨rfl, rfl, trivial⟩, hI⟩
    replace hF := cf hb207 hF; have hE := hE.tr (t := 32) rfl hb207; clear hb207; refine run tt_ok 3 hE rfl fun a hE => ?_; refine c_end ?_; refine xT ?_; cases hF; exact ⟨G92, (GH.le.refl _), hE.keep ⟨rfl, rfl, trivial⟩, hI⟩
  clear hE hI; rintro a w ⟨G99, hg102, hE, hI⟩; clear hF; have hF := hR103; clear hR103; refine xT ?_; refine c_if (b := m101) hE rfl (fun hb204 => ?_) (fun hb204 => ?_)
  · replace hF := ct hb204 hF; refine c_seq ?_; refine c_reg ?_; refine run tt_ok 1 hE rfl fun a hE => ?_; refine c_end ?_; refine xT ?_; refine c_ret ?_; refine xTr ?_; cases hF
    refine r_ret (v := _) hE rfl ⟨_, _, _, rfl, hI.nil, rfl, rfl⟩
  replace hF := cf hb204 hF; refine c_skip ?_; refine xT ?_; refine c_seq ?_; refine c_reg ?_; refine run tt_ok 1 hE rfl fun a hE => ?_; obtain ⟨y108, hy109, hF⟩ := bd hF
  refine s_call0 cl_36 hI hE rfl rfl ((schema_Catalog_Tables.ok k) _ _ hy109 _ _ _ hI.pass0 (h47.mono ((hg71.trans hg91).trans hg102))) rfl ?_; clear hE hI; rintro a w _ G111 _ ⟨rfl, A112, c113, rfl, h114⟩ hg110 hI hE
  refine run tt_ok 1 hE rfl fun a hE => ?_; refine c_end ?_; refine xT ?_; refine c_seq ?_; refine c_reg ?_; refine run tt_ok 1 hE rfl fun a hE => ?_; obtain ⟨y117, hy118, hF⟩ := bd hF
  refine s_call0 cl_33 hI hE rfl rfl ((schema_Catalog_Channel.ok k) _ _ _ hy118 _ _ _ hI.pass0 (h47.mono (((hg71.trans hg91).trans hg102).trans hg110))) rfl ?_; clear hE hI; rintro a w _ G120 _ ⟨rfl, rfl⟩ hg119 hI hE
  refine run tt_ok 5 hE rfl fun a hE => ?_; refine c_end ?_; refine xT ?_; refine c_seq ?_; obtain ⟨m162, hF, hR164⟩ := bd hF
  refine c_cut (fun a' w' => ∃ (G160 : GH), G120.le G160 ∧ Env a' 73 [(0, .bool m162)] ∧ Inv w0 G0 [] G160 [] w') ?_ ?_; rotate_left
  · clear hE hI; rintro a w ⟨G160, hg163, hE, hI⟩; clear hF; have hF := hR164; clear hR164; refine xT ?_; refine c_ret ?_; cases hF; refine r_ret (v := _) hE rfl ⟨_, _, _, rfl, hI.nil, rfl, rfl⟩
  refine c_reg ?_; refine run tt_ok 4 hE rfl fun a hE => ?_; rcases bool_or (decide ((y108.length : Int) = (1 : Int))) with hb165 | hb165; rotate_left
  · replace hF := cf hb165 hF; have hE := hE.tr (t := 46) rfl hb165; clear hb165; refine run tt_ok 27 hE rfl fun a hE => ?_; refine c_end ?_; refine xT ?_; cases hF; exact ⟨G120, (GH.le.refl _), hE.keep ⟨rfl, trivial⟩, hI⟩
  replace hF := ct hb165 hF; have hE := hE.tr (t := 46) rfl hb165; clear hb165; refine run tt_ok 1 hE rfl fun a hE => ?_; obtain ⟨y170, hy171, hF⟩ := bd hF
  obtain ⟨b166, o167, cs, hb181, hR169, hA168⟩ := sl_at (h114.mono hg119) (getO_some hy171).1 (getO_some hy171).2; obtain ⟨A172, c173, A175, c176, A178, c179, rfl, h174, h177, h180⟩ := TRelation.inv.1 hR169
  refine s_rt hI hE rfl (f_idx tt_ok hb181 rfl rfl rfl) rfl fun a hE => ?_; refine run tt_ok 1 hE rfl fun a hE => ?_; refine s_rt hI hE rfl (f_loadG tt_ok hA168 4 rfl rfl rfl rfl) rfl fun a hE => ?_
  refine run tt_ok 3 hE rfl fun a hE => ?_; rcases bool_or (decide (y170.Hide = (1 : Int))) with hb182 | hb182; rotate_left
  · replace hF := cf hb182 hF; have hE := hE.tr (t := 53) rfl hb182; clear hb182; refine run tt_ok 20 hE rfl fun a hE => ?_; refine c_end ?_; refine xT ?_; cases hF; exact ⟨G120, (GH.le.refl _), hE.keep ⟨rfl, trivial⟩, hI⟩
  replace hF := ct hb182 hF; have hE := hE.tr (t := 53) rfl hb182; clear hb182; refine run tt_ok 1 hE rfl fun a hE => ?_
  obtain ⟨b183, o184, cs, hb196, hR186, hA185⟩ := sl_at (h114.mono hg119) (getO_some hy171).1 (getO_some hy171).2; obtain ⟨A187, c188, A190, c191, A193, c194, rfl, h189, h192, h195⟩ := TRelation.inv.1 hR186
  refine s_rt hI hE rfl (f_idx tt_ok hb196 rfl rfl rfl) rfl fun a hE => ?_; refine run tt_ok 1 hE rfl fun a hE => ?_; refine s_rt hI hE rfl (f_loadG tt_ok hA185 3 rfl rfl rfl rfl) rfl fun a hE => ?_
  refine run tt_ok 4 hE rfl fun a hE => ?_; rcases bool_or (decide ((y170.Key.length : Int) = (1 : Int))) with hb197 | hb197; rotate_left
  · replace hF := cf hb197 hF; have hE := hE.tr (t := 61) rfl hb197; clear hb197; refine run tt_ok 12 hE rfl fun a hE => ?_; refine c_end ?_; refine xT ?_; cases hF; exact ⟨G120, (GH.le.refl _), hE.keep ⟨rfl, trivial⟩, hI⟩
  replace hF := ct hb197 hF; have hE := hE.tr (t := 61) rfl hb197; clear hb197; refine run tt_ok 3 hE rfl fun a hE => ?_; rcases bool_or y117.2 with hb198 | hb198; rotate_left
  · replace hF := cf hb198 hF; have hE := hE.tr (t := 64) rfl hb198; clear hb198; refine run tt_ok 9 hE rfl fun a hE => ?_; refine c_end ?_; refine xT ?_; cases hF; exact ⟨G120, (GH.le.refl _), hE.keep ⟨rfl, trivial⟩, hI⟩
  replace hF := ct hb198 hF; have hE := hE.tr (t := 64) rfl hb198; clear hb198; refine run tt_ok 4 hE rfl fun a hE => ?_; rcases bool_or (decide (y117.1 = (0 : Int))) with hb199 | hb199; rotate_left
  · replace hF := cf hb199 hF; have hE := hE.tr (t := 68) rfl hb199; clear hb199; refine run tt_ok 5 hE rfl fun a hE => ?_; refine c_end ?_; refine xT ?_; cases hF; exact ⟨G120, (GH.le.refl _), hE.keep ⟨rfl, trivial⟩, hI⟩
  replace hF := ct hb199 hF; have hE := hE.tr (t := 68) rfl hb199; clear hb199; refine run tt_ok 1 hE rfl fun a hE => ?_; obtain ⟨y200, hy201, hF⟩ := bd hF
  refine s_call0 cl_39 hI hE rfl rfl ((schema_Catalog_Limit.ok k) _ _ hy201 _ _ _ hI.pass0 (h47.mono ((((hg71.trans hg91).trans hg102).trans hg110).trans hg119))) rfl ?_; clear hE hI
  rintro a w _ G203 _ ⟨rfl, rfl⟩ hg202 hI hE; refine run tt_ok 3 hE rfl fun a hE => ?_; refine c_end ?_; refine xT ?_; cases hF; exact ⟨G203, hg202, hE.keep ⟨rfl, trivial⟩, hI⟩

theorem cl_9 : Callable Try.prog 9 := ⟨_, Try.func9, by kernel_rfl, by kernel_rfl⟩

def law08_SchemaNil.C (s : ByteArray → Option Bool) : Prop := ∀ (p0 : ByteArray) (r : Bool), s p0 = some r → ∀ (w0 : World) (G0 : GH) , Inv w0 G0 [] G0 [] w0 → Calls Try.prog 9 #[.string p0] w0 (Ret w0 G0 [] fun G' L' v => L' = [] ∧ v = .bool r)

theorem law08_SchemaNil.ok (k : Nat) : law08_SchemaNil.C (law08_SchemaNil k) := by
  intro p0 r hF w0 G0  hI 
  unfold law08_SchemaNil at hF
  refine calls_of_wp Try.func9 rfl ?_
  have hE : Env _ 63 [(0, .string p0)] := Env.start ⟨[.string p0]⟩ 62
  refine c_seq ?_; refine c_reg ?_; refine run tt_ok 1 hE rfl fun a hE => ?_; refine c_end ?_; refine xT ?_; refine c_seq ?_; refine c_reg ?_; refine run tt_ok 1 hE rfl fun a hE => ?_; refine c_end ?_; refine xT ?_
  refine c_seq ?_; refine c_reg ?_; refine run tt_ok 2 hE rfl fun a hE => ?_; obtain ⟨y3, hy4, hF⟩ := bd hF
  refine s_call0 cl_32 hI hE rfl rfl ((schema_Catalog_Table.ok k) _ _ _ hy4 _ _ _ hI.pass0 Pt.nil) rfl ?_; clear hE hI; rintro a w _ G6 _ ⟨rfl, rfl⟩ hg5 hI hE; refine run tt_ok 5 hE rfl fun a hE => ?_; refine c_end ?_
  refine xT ?_; refine c_seq ?_; refine c_reg ?_; refine run tt_ok 2 hE rfl fun a hE => ?_; obtain ⟨y9, hy10, hF⟩ := bd hF
  refine s_call0 cl_33 hI hE rfl rfl ((schema_Catalog_Channel.ok k) _ _ _ hy10 _ _ _ hI.pass0 Pt.nil) rfl ?_; clear hE hI; rintro a w _ G12 _ ⟨rfl, rfl⟩ hg11 hI hE; refine run tt_ok 5 hE rfl fun a hE => ?_; refine c_end ?_
  refine xT ?_; refine c_seq ?_; refine c_reg ?_; refine run tt_ok 2 hE rfl fun a hE => ?_; obtain ⟨y15, hy16, hF⟩ := bd hF
  refine s_call0 cl_34 hI hE rfl rfl ((schema_Catalog_Principal.ok k) _ _ _ hy16 _ _ _ hI.pass0 Pt.nil) rfl ?_; clear hE hI; rintro a w _ G18 _ ⟨rfl, rfl⟩ hg17 hI hE; refine run tt_ok 5 hE rfl fun a hE => ?_
  refine c_end ?_; refine xT ?_; refine c_seq ?_; obtain ⟨m61, hF, hR63⟩ := bd hF; refine c_cut (fun a' w' => ∃ (G59 : GH), G18.le G59 ∧ Env a' 63 [(2, .bool m61)] ∧ Inv w0 G0 [] G59 [] w') ?_ ?_; rotate_left
  · clear hE hI; rintro a w ⟨G59, hg62, hE, hI⟩; clear hF; have hF := hR63; clear hR63; refine xT ?_; refine c_ret ?_; cases hF; refine r_ret (v := _) hE rfl ⟨_, _, _, rfl, hI.nil, rfl, rfl⟩
  refine c_reg ?_; refine run tt_ok 3 hE rfl fun a hE => ?_; rcases bool_or (!y3.2) with hb64 | hb64; rotate_left
  · replace hF := cf hb64 hF; have hE := hE.tr (t := 30) rfl hb64; clear hb64; refine run tt_ok 33 hE rfl fun a hE => ?_; refine c_end ?_; refine xT ?_; cases hF; exact ⟨G18, (GH.le.refl _), hE.keep ⟨rfl, trivial⟩, hI⟩
  replace hF := ct hb64 hF; have hE := hE.tr (t := 30) rfl hb64; clear hb64; refine run tt_ok 4 hE rfl fun a hE => ?_; rcases bool_or (!y9.2) with hb65 | hb65; rotate_left
  · replace hF := cf hb65 hF; have hE := hE.tr (t := 34) rfl hb65; clear hb65; refine run tt_ok 29 hE rfl fun a hE => ?_; refine c_end ?_; refine xT ?_; cases hF; exact ⟨G18, (GH.le.refl _), hE.keep ⟨rfl, trivial⟩, hI⟩
  replace hF := ct hb65 hF; have hE := hE.tr (t := 34) rfl hb65; clear hb65; refine run tt_ok 4 hE rfl fun a hE => ?_; rcases bool_or (!y15.2) with hb66 | hb66; rotate_left
  · replace hF := cf hb66 hF; have hE := hE.tr (t := 38) rfl hb66; clear hb66; refine run tt_ok 25 hE rfl fun a hE => ?_; refine c_end ?_; refine xT ?_; cases hF; exact ⟨G18, (GH.le.refl _), hE.keep ⟨rfl, trivial⟩, hI⟩
  replace hF := ct hb66 hF; have hE := hE.tr (t := 38) rfl hb66; clear hb66; refine run tt_ok 1 hE rfl fun a hE => ?_; obtain ⟨y67, hy68, hF⟩ := bd hF
  refine s_call0 cl_35 hI hE rfl rfl ((schema_Catalog_Lattice.ok k) _ _ hy68 _ _ _ hI.pass0 Pt.nil) rfl ?_; clear hE hI; rintro a w _ G70 _ ⟨rfl, A71, rfl, h72⟩ hg69 hI hE
  refine s_rt hI hE rfl (f_pnil up_28 h72 rfl rfl) rfl fun a hE => ?_; refine run tt_ok 2 hE rfl fun a hE => ?_; rcases bool_or y67.isNone with hb73 | hb73; rotate_left
  · replace hF := cf hb73 hF; have hE := hE.tr (t := 43) rfl hb73; clear hb73; refine run tt_ok 20 hE rfl fun a hE => ?_; refine c_end ?_; refine xT ?_; cases hF; exact ⟨G70, hg69, hE.keep ⟨rfl, trivial⟩, hI⟩
  replace hF := ct hb73 hF; have hE := hE.tr (t := 43) rfl hb73; clear hb73; refine run tt_ok 1 hE rfl fun a hE => ?_; obtain ⟨y74, hy75, hF⟩ := bd hF
  refine s_call0 cl_36 hI hE rfl rfl ((schema_Catalog_Tables.ok k) _ _ hy75 _ _ _ hI.pass0 Pt.nil) rfl ?_; clear hE hI; rintro a w _ G77 _ ⟨rfl, A78, c79, rfl, h80⟩ hg76 hI hE; refine run tt_ok 2 hE rfl fun a hE => ?_
  obtain ⟨y81, hy82, hF⟩ := bd hF; refine s_call0 cl_37 hI hE rfl rfl ((schema_Catalog_Channels.ok k) _ _ hy82 _ _ _ hI.pass0 Pt.nil) rfl ?_; clear hE hI; rintro a w _ G84 _ ⟨rfl, A85, c86, rfl, h87⟩ hg83 hI hE
  refine run tt_ok 3 hE rfl fun a hE => ?_; obtain ⟨y88, hy89, hF⟩ := bd hF; refine s_call0 cl_38 hI hE rfl rfl ((schema_Catalog_Principals.ok k) _ _ hy89 _ _ _ hI.pass0 Pt.nil) rfl ?_; clear hE hI
  rintro a w _ G91 _ ⟨rfl, A92, c93, rfl, h94⟩ hg90 hI hE; refine run tt_ok 3 hE rfl fun a hE => ?_; obtain ⟨y95, hy96, hF⟩ := bd hF
  refine s_call0 cl_39 hI hE rfl rfl ((schema_Catalog_Limit.ok k) _ _ hy96 _ _ _ hI.pass0 Pt.nil) rfl ?_; clear hE hI; rintro a w _ G98 _ ⟨rfl, rfl⟩ hg97 hI hE; refine run tt_ok 4 hE rfl fun a hE => ?_
  rcases bool_or (decide ((w64 ((w64 ((w64 ((y74.length : Int) + (y81.length : Int))) + (y88.length : Int))) + y95)) = (0 : Int))) with hb99 | hb99; rotate_left
  · replace hF := cf hb99 hF; have hE := hE.tr (t := 60) rfl hb99; clear hb99; refine run tt_ok 3 hE rfl fun a hE => ?_; refine c_end ?_; refine xT ?_; cases hF
    exact ⟨G98, ((((hg69.trans hg76).trans hg83).trans hg90).trans hg97), hE.keep ⟨rfl, trivial⟩, hI⟩
  replace hF := ct hb99 hF; have hE := hE.tr (t := 60) rfl hb99; clear hb99; obtain ⟨y100, hy101, hF⟩ := bd hF; refine s_call0 cl_40 hI hE rfl rfl ((law08_alive.ok k) _ hy101 _ _  hI.pass0 ) rfl ?_; clear hE hI
  rintro a w _ G103 _ ⟨rfl, rfl⟩ hg102 hI hE; refine run tt_ok 2 hE rfl fun a hE => ?_; refine c_end ?_; refine xT ?_; cases hF
  exact ⟨G103, (((((hg69.trans hg76).trans hg83).trans hg90).trans hg97).trans hg102), hE.keep ⟨rfl, trivial⟩, hI⟩
end Go.Proofs.Ytliaopbgkcdibaa
