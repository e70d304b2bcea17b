/- The row: the law holds as it is stated, if its plain function answers true whatever the input. Written by rows.py. -/
import Derived.Test.YthaekpmkjfmilaaGreatRows
import Derived.Test.YthaekpmkjfmilaaGreatCxR
import Derived.Test.YthaekpmkjfmilaaGreatCgN1
import Derived.WalkKit
import Derived.ProofKit
import Derived.OpenShut
set_option linter.unusedVariables false
set_option linter.unusedSimpArgs false
set_option maxRecDepth 100000
namespace Go.Proofs.YthaekpmkjfmilaaGreat
open Go.ChangeShapes Go.WideShapes Go.ChangeAt Go.RowKit
theorem ownknob : ownKnob Tryz.prog.godebug = none := by kernel_rfl
theorem dec_101 : ∀ (n : Nat) (l : List D), Lv Tryz.prog n 101 l → ∃ x : TValue, D.st l = x.d := by
  intro n0 l h
  obtain ⟨n, hn, ps, rfl, hl, hf⟩ := Lv.struct (ts := [3, 3, 9]) Tryz.underlying101 rfl h
  match ps, hl with
  | [l0, l1, l2], _ =>
    obtain ⟨x0, rfl, _⟩ := Lv.int Tryz.underlying3 (hf 0 3 l0 rfl rfl)
    obtain ⟨x1, rfl, _⟩ := Lv.int Tryz.underlying3 (hf 1 3 l1 rfl rfl)
    obtain ⟨x2, rfl, _⟩ := Lv.str Tryz.underlying9 (hf 2 9 l2 rfl rfl)
    exact ⟨TValue.mk x0 x1 x2, by simp [TValue.d]⟩
theorem dec_135 : ∀ (n : Nat) (l : List D), Lv Tryz.prog n 135 l → ∃ x : TOut, D.st l = x.d := by
  intro n0 l h
  obtain ⟨n, hn, ps, rfl, hl, hf⟩ := Lv.struct (ts := [3, 101]) Tryz.underlying135 rfl h
  match ps, hl with
  | [l0, l1], _ =>
    obtain ⟨x0, rfl, _⟩ := Lv.int Tryz.underlying3 (hf 0 3 l0 rfl rfl)
    obtain ⟨x1, hx1⟩ := dec_101 n l1 (hf 1 101 l1 rfl rfl)
    simp only [TValue.d, D.st.injEq] at hx1; subst hx1
    exact ⟨TOut.mk x0 x1, by simp [TOut.d]⟩
set_option maxRecDepth 100000 in
theorem law20_EraseNil.lifted (hlaw : ∀ (a0 : Int) (a1 : List TOut), ∃ k, law20_EraseNil k a0 a1 = some true) (os : Os) (started : os.Started) (H : Type) (enc : TypeId × Value → H) :
    ReturnsInHanded {} Tryz.checked os 11 .any (Rows.eraseNilSpec.pre6 enc Tryz.prog Tryz.f11 Rows.eraseNilRow.domain false) (Rows.eraseNilSpec.post enc Tryz.prog Tryz.f11 false true false false) := by
  refine returnsInHanded_of_change (C := Tryz.checked) ownknob started (by kernel_rfl) Tryz.func11 (ChangeSpec.witness6 (enc := enc) (C := Tryz.checked) false ⟨#[], #[.int .i64 0, .slice none 0 0], []⟩ 8 (by kernel_rfl) (by kernel_rfl) (by kernel_rfl) (by kernel_rfl)) ?_
  intro W base args ds gs before hval0 hW hcnd _
  have hval : ∀ (j : Nat) t v, Tryz.f11.params[j]? = some t → args[j]? = some v → Value.okWide Tryz.prog W .any base t v := hval0
  have hW' := hW
  obtain ⟨p, q, hA0, hV, rfl, hfz, hnd⟩ := hW
  have hA : DataW.TrodAll enc Tryz.prog W 0 (fun _ => true) true Tryz.f11.params.toList args.toList ds p := hA0
  rw [Tryz.params11] at hA hval
  obtain ⟨v0, vs0, d0, ds0, p0, q0, hargs, rfl, rfl, h0, r0⟩ := trodAll_cons hA
  obtain ⟨v1, vs1, d1, ds1, p1, q1, rfl, rfl, rfl, h1, r1⟩ := trodAll_cons r0
  obtain ⟨rfl, rfl, rfl⟩ := trodAll_nil r1
  obtain rfl : args = #[v0, v1] := by cases args; simp_all
  obtain ⟨rfl, rfl⟩ := trodVars_none hV
  obtain ⟨n0, l0, hr0, hl0⟩ := rep_arg (TS := [3, 51, 135, 101, 9]) (by kernel_rfl) (t := 3) (by decide) h0
  rw [one_of (hval 0 3 v0 rfl rfl) (by kernel_rfl)] at hr0
  obtain ⟨a0, rfl, _⟩ := Lv.int Tryz.underlying3 (hl0)
  have hv0 := rep_int.1 (repF_one.1 hr0); obtain rfl : v0 = _ := List.singleton_inj.1 hv0
  obtain ⟨n1, l1, hr1, hl1⟩ := rep_arg (TS := [3, 51, 135, 101, 9]) (by kernel_rfl) (t := 51) (by decide) h1
  rw [one_of (hval 1 51 v1 rfl rfl) (by kernel_rfl)] at hr1
  obtain ⟨a1, rfl⟩ := Lv.slice (sz := 4) (g := TOut.d) Tryz.underlying51 (by kernel_rfl) (fun m l hm h => by obtain ⟨x, hx⟩ := (dec_135 m l h); exact ⟨x, (elD_agg (by kernel_rfl)).trans hx⟩) (hl1)
  obtain ⟨A1, c1, hv1, hR1⟩ := rep_slm.1 (repF_one.1 hr1); obtain rfl : v1 = _ := List.singleton_inj.1 hv1
  obtain ⟨k, hk⟩ := hlaw a0 a1
  refine (@law20_EraseNil.ok k a0 a1 true hk W (hG W) _ _ (Inv.start (inG_hG W)) hR1).mono ?_
  rintro e W' ⟨v, G', L', rfl, hI, _, rfl⟩
  exact ⟨_, rfl, post_law (by kernel_rfl) (by rw [Tryz.params11]; intro t ht; simp only [Array.toList] at ht; revert t; decide +kernel) rfl rfl Tryz.underlying4 hW' hI.below rfl⟩
theorem law20_EraseNil.row (hlaw : ∀ (a0 : Int) (a1 : List TOut), ∃ k, law20_EraseNil k a0 a1 = some true) : Rows.EraseNilSaid :=
  OpenClaim.holds_of_wide 11 Tryz.f11 rfl rfl rfl rfl rfl rfl rfl ⟨rfl, rfl, rfl, rfl, rfl⟩ rfl rfl rfl rfl rfl (by kernel_rfl) Tryz.func11 (by kernel_rfl)
    (of_decide_eq_true (by kernel_rfl)) (by unfold Func.isWrapper; first | (rw [if_pos (by decide +kernel)]; kernel_rfl) | (rw [if_neg (by decide +kernel)]; exact ⟨rfl, rfl⟩))
    (fun os started H enc _ => law20_EraseNil.lifted hlaw os started H enc)
end Go.Proofs.YthaekpmkjfmilaaGreat
