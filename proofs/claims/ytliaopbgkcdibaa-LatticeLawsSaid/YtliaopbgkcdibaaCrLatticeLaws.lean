/- The row: the law holds as it is stated, if its plain function answers true whatever the input. Written by rows.py. -/
import Derived.Test.YtliaopbgkcdibaaRows
import Derived.Test.YtliaopbgkcdibaaCxR
import Derived.Test.YtliaopbgkcdibaaCgE4
import Derived.WalkKit
import Derived.ProofKit
import Derived.OpenShut
set_option linter.unusedVariables false
set_option linter.unusedSimpArgs false
set_option maxRecDepth 100000
namespace Go.Proofs.Ytliaopbgkcdibaa
open Go.ChangeShapes Go.WideShapes Go.ChangeAt Go.RowKit
theorem ownknob : ownKnob Try.prog.godebug = none := by kernel_rfl
theorem dec_27 : ∀ (n : Nat) (l : List D), Lv Try.prog n 27 l → ∃ x : TPair, D.st l = x.d := by
  intro n0 l h
  obtain ⟨n, hn, ps, rfl, hl, hf⟩ := Lv.struct (ts := [9, 9]) Try.underlying27 rfl h
  match ps, hl with
  | [l0, l1], _ =>
    obtain ⟨x0, rfl, _⟩ := Lv.str Try.underlying9 (hf 0 9 l0 rfl rfl)
    obtain ⟨x1, rfl, _⟩ := Lv.str Try.underlying9 (hf 1 9 l1 rfl rfl)
    exact ⟨TPair.mk x0 x1, by simp [TPair.d]⟩
set_option maxRecDepth 100000 in
theorem law03_LatticeLaws.lifted (hlaw : ∀ (a0 : List ByteArray) (a1 : List TPair), ∃ k, law03_LatticeLaws k a0 a1 = some true) (os : Os) (started : os.Started) (H : Type) (enc : TypeId × Value → H) :
    ReturnsInHanded {} Try.checked os 4 .any (Rows.latticeLawsSpec.pre6 enc Try.prog Try.f4 Rows.latticeLawsRow.domain false) (Rows.latticeLawsSpec.post enc Try.prog Try.f4 false true false false) := by
  refine returnsInHanded_of_change (C := Try.checked) ownknob started (by kernel_rfl) Try.func4 (ChangeSpec.witness6 (enc := enc) (C := Try.checked) false ⟨#[], #[.slice none 0 0, .slice none 0 0], []⟩ 8 (by kernel_rfl) (by kernel_rfl) (by kernel_rfl) (by kernel_rfl)) ?_
  intro W base args ds gs before hval0 hW hcnd _
  have hval : ∀ (j : Nat) t v, Try.f4.params[j]? = some t → args[j]? = some v → Value.okWide Try.prog W .any base t v := hval0
  have hW' := hW
  obtain ⟨p, q, hA0, hV, rfl, hfz, hnd⟩ := hW
  have hA : DataW.TrodAll enc Try.prog W 0 (fun _ => true) true Try.f4.params.toList args.toList ds p := hA0
  rw [Try.params4] at hA hval
  obtain ⟨v0, vs0, d0, ds0, p0, q0, hargs, rfl, rfl, h0, r0⟩ := trodAll_cons hA
  obtain ⟨v1, vs1, d1, ds1, p1, q1, rfl, rfl, rfl, h1, r1⟩ := trodAll_cons r0
  obtain ⟨rfl, rfl, rfl⟩ := trodAll_nil r1
  obtain rfl : args = #[v0, v1] := by cases args; simp_all
  obtain ⟨rfl, rfl⟩ := trodVars_none hV
  obtain ⟨n0, l0, hr0, hl0⟩ := rep_arg (TS := [22, 9, 23, 27]) (by kernel_rfl) (t := 22) (by decide) h0
  rw [one_of (hval 0 22 v0 rfl rfl) (by kernel_rfl)] at hr0
  obtain ⟨a0, rfl⟩ := Lv.slice (sz := 1) (g := D.str) Try.underlying22 (by kernel_rfl) (fun m l hm h => by obtain ⟨x, rfl, _⟩ := Lv.str Try.underlying9 h; exact ⟨x, elD_one (by kernel_rfl)⟩) (hl0)
  obtain ⟨A0, c0, hv0, hR0⟩ := rep_slm.1 (repF_one.1 hr0); obtain rfl : v0 = _ := List.singleton_inj.1 hv0
  obtain ⟨n1, l1, hr1, hl1⟩ := rep_arg (TS := [22, 9, 23, 27]) (by kernel_rfl) (t := 23) (by decide) h1
  rw [one_of (hval 1 23 v1 rfl rfl) (by kernel_rfl)] at hr1
  obtain ⟨a1, rfl⟩ := Lv.slice (sz := 2) (g := TPair.d) Try.underlying23 (by kernel_rfl) (fun m l hm h => by obtain ⟨x, hx⟩ := (dec_27 m l h); exact ⟨x, (elD_agg (by kernel_rfl)).trans hx⟩) (hl1)
  obtain ⟨A1, c1, hv1, hR1⟩ := rep_slm.1 (repF_one.1 hr1); obtain rfl : v1 = _ := List.singleton_inj.1 hv1
  obtain ⟨k, hk⟩ := hlaw a0 a1
  refine (law03_LatticeLaws.ok k a0 a1 true hk W (hG W) _ _ _ _ (Inv.start (inG_hG W)) hR0 hR1).mono ?_
  rintro e W' ⟨v, G', L', rfl, hI, _, rfl⟩
  exact ⟨_, rfl, post_law (by kernel_rfl) (by rw [Try.params4]; intro t ht; simp only [Array.toList] at ht; revert t; decide +kernel) rfl rfl Try.underlying4 hW' hI.below rfl⟩
theorem law03_LatticeLaws.row (hlaw : ∀ (a0 : List ByteArray) (a1 : List TPair), ∃ k, law03_LatticeLaws k a0 a1 = some true) : Rows.LatticeLawsSaid :=
  OpenClaim.holds_of_wide 4 Try.f4 rfl rfl rfl rfl rfl rfl rfl ⟨rfl, rfl, rfl, rfl, rfl⟩ rfl rfl rfl rfl rfl (by kernel_rfl) Try.func4 (by kernel_rfl)
    (of_decide_eq_true (by kernel_rfl)) (by unfold Func.isWrapper; first | (rw [if_pos (by decide +kernel)]; kernel_rfl) | (rw [if_neg (by decide +kernel)]; exact ⟨rfl, rfl⟩))
    (fun os started H enc _ => law03_LatticeLaws.lifted hlaw os started H enc)
end Go.Proofs.Ytliaopbgkcdibaa
