/- The row: the law holds as it is stated, if its plain function answers true whatever the input. Written by rows.py. -/
import Derived.Test.YtliaopbgkcdibaaDoorRows
import Derived.Test.YtliaopbgkcdibaaDoorCxR
import Derived.Test.YtliaopbgkcdibaaDoorCgE5
import Derived.WalkKit
import Derived.ProofKit
import Derived.OpenShut
import Derived.LaidMore
import Derived.Stop.Joined
set_option linter.unusedVariables false
set_option linter.unusedSimpArgs false
set_option maxRecDepth 100000
namespace Go.Proofs.YtliaopbgkcdibaaDoor
open Go.ChangeShapes Go.WideShapes Go.ChangeAt Go.RowKit
theorem ownknob : ownKnob Tryd.prog.godebug = none := by kernel_rfl
theorem dec_45 : ∀ (n : Nat) (l : List D), Lv Tryd.prog n 45 l → ∃ x : TPair, D.st l = x.d := by
  intro n0 l h
  obtain ⟨n, hn, ps, rfl, hl, hf⟩ := Lv.struct (ts := [9, 9]) Tryd.underlying45 rfl h
  match ps, hl with
  | [l0, l1], _ =>
    obtain ⟨x0, rfl, _⟩ := Lv.str Tryd.underlying9 (hf 0 9 l0 rfl rfl)
    obtain ⟨x1, rfl, _⟩ := Lv.str Tryd.underlying9 (hf 1 9 l1 rfl rfl)
    exact ⟨TPair.mk x0 x1, by simp [TPair.d]⟩
theorem gn0 : Tryd.prog.globalNamed "math/bits.deBruijn32tab" = some 0 := by kernel_rfl
theorem gty0 : (Tryd.prog.globals[0]?).map (·.type) = some 67 := by kernel_rfl
theorem door_met (os : Os) (args : Array Value) : laidMetH Tryd.prog [("math/bits.deBruijn32tab", Rows.laid_math_bits_deBruijn32tab)] ((World.doorLaid Tryd.prog 400 os).forCall (fun _ _ => 0) ⟨#[], args, []⟩).memory :=
  laidMetH_of_parts3 (fuel := 8) (laidMet_of_run' 8 (by kernel_rfl) (by kernel_rfl)) (by kernel_rfl) (by kernel_rfl)
theorem of_laid {W : World} (h : laidMetH Tryd.prog [("math/bits.deBruijn32tab", Rows.laid_math_bits_deBruijn32tab)] W) : Gl0 (hG W) := by
  rw [MakeChecks.laidMetH_plain _ _ _ (by kernel_rfl)] at h
  obtain ⟨ps, ⟨g0, t0, cs0, f0, p0, q0, hg0, ht0, hv0, hd0, _, _⟩, _, _⟩ := h
  obtain rfl := Option.some.inj (gn0.symm.trans hg0)
  obtain rfl := Option.some.inj (gty0.symm.trans ht0)
  exact at_of_trod (l := gt0) ua_67 uk_5 (by kernel_rfl) gt0_len (fun i => World.var?_cell hg0 hv0 i) hd0
set_option maxRecDepth 100000 in
theorem law03_LatticeTables.lifted (hlaw : ∀ (a0 : List ByteArray) (a1 : List TPair) (a2 : Int) (a3 : Int), ∃ k, law03_LatticeTables k a0 a1 a2 a3 = some true) (os : Os) (started : os.Started) (H : Type) (enc : TypeId × Value → H) :
    ReturnsInHanded {} Tryd.checked os 3 .any (fun w args => (Rows.latticeTablesSpec.pre enc Tryd.prog Tryd.f3 [] false w args ∧ laidMetH Tryd.prog [("math/bits.deBruijn32tab", Rows.laid_math_bits_deBruijn32tab)] w) ∧ sizedMet enc Tryd.prog Tryd.f3 (OpenSpec.ofChange Rows.latticeTablesSpec) false w args) (Rows.latticeTablesSpec.post enc Tryd.prog Tryd.f3 false true false false) := by
  refine returnsInHanded_of_change_and (C := Tryd.checked) (X := fun w _ => laidMetH Tryd.prog [("math/bits.deBruijn32tab", Rows.laid_math_bits_deBruijn32tab)] w) (fun _ _ _ hh h => h.of_heap hh) ownknob started (by kernel_rfl) Tryd.func3 (ChangeSpec.witness_shaped (enc := enc) (C := Tryd.checked) (os := os) (X := fun w _ => laidMetH Tryd.prog [("math/bits.deBruijn32tab", Rows.laid_math_bits_deBruijn32tab)] w) false (World.doorLaid Tryd.prog 400 os) #[.slice none 0 0, .slice none 0 0, .int .i64 0, .int .i64 0] 8 rfl (World.shaped_of_RefB (by kernel_rfl) (by kernel_rfl)) (by kernel_rfl) (by kernel_rfl) (by kernel_rfl) (door_met os _)) ?_
  intro W base args ds gs before hval0 hW _ _ hLaid _
  have hGl := of_laid hLaid
  have hval : ∀ (j : Nat) t v, Tryd.f3.params[j]? = some t → args[j]? = some v → Value.okWide Tryd.prog W .any base t v := hval0
  have hW' := hW
  obtain ⟨p, q, hA0, hV, rfl, hfz, hnd⟩ := hW
  have hA : DataW.TrodAll enc Tryd.prog W 0 (fun _ => true) true Tryd.f3.params.toList args.toList ds p := hA0
  rw [Tryd.params3] at hA hval
  obtain ⟨v0, vs0, d0, ds0, p0, q0, hargs, rfl, rfl, h0, r0⟩ := trodAll_cons hA
  obtain ⟨v1, vs1, d1, ds1, p1, q1, rfl, rfl, rfl, h1, r1⟩ := trodAll_cons r0
  obtain ⟨v2, vs2, d2, ds2, p2, q2, rfl, rfl, rfl, h2, r2⟩ := trodAll_cons r1
  obtain ⟨v3, vs3, d3, ds3, p3, q3, rfl, rfl, rfl, h3, r3⟩ := trodAll_cons r2
  obtain ⟨rfl, rfl, rfl⟩ := trodAll_nil r3
  obtain rfl : args = #[v0, v1, v2, v3] := by cases args; simp_all
  obtain ⟨rfl, rfl⟩ := trodVars_none hV
  obtain ⟨n0, l0, hr0, hl0⟩ := rep_arg (TS := [22, 9, 23, 45, 3]) (by kernel_rfl) (t := 22) (by decide) h0
  rw [one_of (hval 0 22 v0 rfl rfl) (by kernel_rfl)] at hr0
  obtain ⟨a0, rfl⟩ := Lv.slice (sz := 1) (g := D.str) Tryd.underlying22 (by kernel_rfl) (fun m l hm h => by obtain ⟨x, rfl, _⟩ := Lv.str Tryd.underlying9 h; exact ⟨x, elD_one (by kernel_rfl)⟩) (hl0)
  obtain ⟨A0, c0, hv0, hR0⟩ := rep_slm.1 (repF_one.1 hr0); obtain rfl : v0 = _ := List.singleton_inj.1 hv0
  obtain ⟨n1, l1, hr1, hl1⟩ := rep_arg (TS := [22, 9, 23, 45, 3]) (by kernel_rfl) (t := 23) (by decide) h1
  rw [one_of (hval 1 23 v1 rfl rfl) (by kernel_rfl)] at hr1
  obtain ⟨a1, rfl⟩ := Lv.slice (sz := 2) (g := TPair.d) Tryd.underlying23 (by kernel_rfl) (fun m l hm h => by obtain ⟨x, hx⟩ := (dec_45 m l h); exact ⟨x, (elD_agg (by kernel_rfl)).trans hx⟩) (hl1)
  obtain ⟨A1, c1, hv1, hR1⟩ := rep_slm.1 (repF_one.1 hr1); obtain rfl : v1 = _ := List.singleton_inj.1 hv1
  obtain ⟨n2, l2, hr2, hl2⟩ := rep_arg (TS := [22, 9, 23, 45, 3]) (by kernel_rfl) (t := 3) (by decide) h2
  rw [one_of (hval 2 3 v2 rfl rfl) (by kernel_rfl)] at hr2
  obtain ⟨a2, rfl, _⟩ := Lv.int Tryd.underlying3 (hl2)
  have hv2 := rep_int.1 (repF_one.1 hr2); obtain rfl : v2 = _ := List.singleton_inj.1 hv2
  obtain ⟨n3, l3, hr3, hl3⟩ := rep_arg (TS := [22, 9, 23, 45, 3]) (by kernel_rfl) (t := 3) (by decide) h3
  rw [one_of (hval 3 3 v3 rfl rfl) (by kernel_rfl)] at hr3
  obtain ⟨a3, rfl, _⟩ := Lv.int Tryd.underlying3 (hl3)
  have hv3 := rep_int.1 (repF_one.1 hr3); obtain rfl : v3 = _ := List.singleton_inj.1 hv3
  obtain ⟨k, hk⟩ := hlaw a0 a1 a2 a3
  refine (law03_LatticeTables.ok k a0 a1 a2 a3 true hk W (hG W) _ _ _ _ (Inv.start (inG_hG W)) hGl hR0 hR1).mono ?_
  rintro e W' ⟨v, G', L', rfl, hI, _, rfl⟩
  exact ⟨_, rfl, post_law (by kernel_rfl) (by rw [Tryd.params3]; intro t ht; simp only [Array.toList] at ht; revert t; decide +kernel) rfl rfl Tryd.underlying4 hW' hI.below rfl⟩
theorem law03_LatticeTables.row (hlaw : ∀ (a0 : List ByteArray) (a1 : List TPair) (a2 : Int) (a3 : Int), ∃ k, law03_LatticeTables k a0 a1 a2 a3 = some true) : Rows.LatticeTablesSaid :=
  OpenClaim.holds_of_wide 3 Tryd.f3 rfl rfl rfl rfl rfl rfl rfl ⟨rfl, rfl, rfl, rfl, rfl⟩ rfl rfl rfl rfl rfl (by kernel_rfl) Tryd.func3 (by kernel_rfl)
    (of_decide_eq_true (by kernel_rfl)) (by unfold Func.isWrapper; first | (rw [if_pos (by decide +kernel)]; kernel_rfl) | (rw [if_neg (by decide +kernel)]; exact ⟨rfl, rfl⟩))
    (fun os started H enc _ => law03_LatticeTables.lifted hlaw os started H enc)
end Go.Proofs.YtliaopbgkcdibaaDoor
