/- The row: the law holds as it is stated, if its plain function answers true whatever the input. Written by rows.py. -/
import Derived.Test.YtliaopbgkcdibaaRows
import Derived.Test.YtliaopbgkcdibaaCxR
import Derived.Test.YtliaopbgkcdibaaCgE7
import Derived.WalkKit
import Derived.ProofKit
import Derived.OpenShut
set_option linter.unusedVariables false
set_option linter.unusedSimpArgs false
set_option maxRecDepth 100000
namespace Go.Proofs.Ytliaopbgkcdibaa
open Go.ChangeShapes Go.WideShapes Go.ChangeAt Go.RowKit
theorem ownknob : ownKnob Try.prog.godebug = none := by kernel_rfl
theorem dec_27 : ∀ (n : Nat) (l : List D), Lv Try.prog n 27 l → ∃ x : TPair, D.st l = x.d := by
  intro n0 l h
  obtain ⟨n, hn, ps, rfl, hl, hf⟩ := Lv.struct (ts := [9, 9]) Try.underlying27 rfl h
  match ps, hl with
  | [l0, l1], _ =>
    obtain ⟨x0, rfl, _⟩ := Lv.str Try.underlying9 (hf 0 9 l0 rfl rfl)
    obtain ⟨x1, rfl, _⟩ := Lv.str Try.underlying9 (hf 1 9 l1 rfl rfl)
    exact ⟨TPair.mk x0 x1, by simp [TPair.d]⟩
set_option maxRecDepth 100000 in
theorem law03_LatticeMakes.lifted (hlaw : ∀ (a0 : List ByteArray) (a1 : List TPair) (a2 : ByteArray), ∃ k, law03_LatticeMakes k a0 a1 a2 = some true) (os : Os) (started : os.Started) (H : Type) (enc : TypeId × Value → H) :
    ReturnsInHanded {} Try.checked os 6 .any (Rows.latticeMakesSpec.pre6 enc Try.prog Try.f6 Rows.latticeMakesRow.domain false) (Rows.latticeMakesSpec.post enc Try.prog Try.f6 false true false false) := by
  refine returnsInHanded_of_change (C := Try.checked) ownknob started (by kernel_rfl) Try.func6 (ChangeSpec.witness6 (enc := enc) (C := Try.checked) false ⟨#[], #[.slice none 0 0, .slice none 0 0, .string ⟨#[]⟩], []⟩ 8 (by kernel_rfl) (by kernel_rfl) (by kernel_rfl) (by kernel_rfl)) ?_
  intro W base args ds gs before hval0 hW hcnd _
  have hval : ∀ (j : Nat) t v, Try.f6.params[j]? = some t → args[j]? = some v → Value.okWide Try.prog W .any base t v := hval0
  have hW' := hW
  obtain ⟨p, q, hA0, hV, rfl, hfz, hnd⟩ := hW
  have hA : DataW.TrodAll enc Try.prog W 0 (fun _ => true) true Try.f6.params.toList args.toList ds p := hA0
  rw [Try.params6] at hA hval
  obtain ⟨v0, vs0, d0, ds0, p0, q0, hargs, rfl, rfl, h0, r0⟩ := trodAll_cons hA
  obtain ⟨v1, vs1, d1, ds1, p1, q1, rfl, rfl, rfl, h1, r1⟩ := trodAll_cons r0
  obtain ⟨v2, vs2, d2, ds2, p2, q2, rfl, rfl, rfl, h2, r2⟩ := trodAll_cons r1
  obtain ⟨rfl, rfl, rfl⟩ := trodAll_nil r2
  obtain rfl : args = #[v0, v1, v2] := by cases args; simp_all
  obtain ⟨rfl, rfl⟩ := trodVars_none hV
  obtain ⟨n0, l0, hr0, hl0⟩ := rep_arg (TS := [22, 9, 23, 27]) (by kernel_rfl) (t := 22) (by decide) h0
  rw [one_of (hval 0 22 v0 rfl rfl) (by kernel_rfl)] at hr0
  obtain ⟨a0, rfl⟩ := Lv.slice (sz := 1) (g := D.str) Try.underlying22 (by kernel_rfl) (fun m l hm h => by obtain ⟨x, rfl, _⟩ := Lv.str Try.underlying9 h; exact ⟨x, elD_one (by kernel_rfl)⟩) (hl0)
  obtain ⟨A0, c0, hv0, hR0⟩ := rep_slm.1 (repF_one.1 hr0); obtain rfl : v0 = _ := List.singleton_inj.1 hv0
  obtain ⟨n1, l1, hr1, hl1⟩ := rep_arg (TS := [22, 9, 23, 27]) (by kernel_rfl) (t := 23) (by decide) h1
  rw [one_of (hval 1 23 v1 rfl rfl) (by kernel_rfl)] at hr1
  obtain ⟨a1, rfl⟩ := Lv.slice (sz := 2) (g := TPair.d) Try.underlying23 (by kernel_rfl) (fun m l hm h => by obtain ⟨x, hx⟩ := (dec_27 m l h); exact ⟨x, (elD_agg (by kernel_rfl)).trans hx⟩) (hl1)
  obtain ⟨A1, c1, hv1, hR1⟩ := rep_slm.1 (repF_one.1 hr1); obtain rfl : v1 = _ := List.singleton_inj.1 hv1
  obtain ⟨n2, l2, hr2, hl2⟩ := rep_arg (TS := [22, 9, 23, 27]) (by kernel_rfl) (t := 9) (by decide) h2
  rw [one_of (hval 2 9 v2 rfl rfl) (by kernel_rfl)] at hr2
  obtain ⟨a2, rfl, _⟩ := Lv.str Try.underlying9 (hl2)
  have hv2 := rep_str.1 (repF_one.1 hr2); obtain rfl : v2 = _ := List.singleton_inj.1 hv2
  obtain ⟨k, hk⟩ := hlaw a0 a1 a2
  refine (law03_LatticeMakes.ok k a0 a1 a2 true hk W (hG W) _ _ _ _ (Inv.start (inG_hG W)) hR0 hR1).mono ?_
  rintro e W' ⟨v, G', L', rfl, hI, _, rfl⟩
  exact ⟨_, rfl, post_law (by kernel_rfl) (by rw [Try.params6]; intro t ht; simp only [Array.toList] at ht; revert t; decide +kernel) rfl rfl Try.underlying4 hW' hI.below rfl⟩
theorem law03_LatticeMakes.row (hlaw : ∀ (a0 : List ByteArray) (a1 : List TPair) (a2 : ByteArray), ∃ k, law03_LatticeMakes k a0 a1 a2 = some true) : Rows.LatticeMakesSaid :=
  OpenClaim.holds_of_wide 6 Try.f6 rfl rfl rfl rfl rfl rfl rfl ⟨rfl, rfl, rfl, rfl, rfl⟩ rfl rfl rfl rfl rfl (by kernel_rfl) Try.func6 (by kernel_rfl)
    (of_decide_eq_true (by kernel_rfl)) (by unfold Func.isWrapper; first | (rw [if_pos (by decide +kernel)]; kernel_rfl) | (rw [if_neg (by decide +kernel)]; exact ⟨rfl, rfl⟩))
    (fun os started H enc _ => law03_LatticeMakes.lifted hlaw os started H enc)
end Go.Proofs.Ytliaopbgkcdibaa
