/- The row: the law holds as it is stated, if its plain function answers true whatever the input. Written by rows.py. -/
import Derived.Test.YtliaopbgkcdibaaRows
import Derived.Test.YtliaopbgkcdibaaCxR
import Derived.Test.YtliaopbgkcdibaaCgS17
import Derived.WalkKit
import Derived.ProofKit
import Derived.OpenShut
set_option linter.unusedVariables false
set_option linter.unusedSimpArgs false
set_option maxRecDepth 100000
namespace Go.Proofs.Ytliaopbgkcdibaa
open Go.ChangeShapes Go.WideShapes Go.ChangeAt Go.RowKit
theorem ownknob : ownKnob Try.prog.godebug = none := by kernel_rfl

set_option maxRecDepth 100000 in
theorem law08_SchemaNil.lifted (hlaw : ∀ (a0 : ByteArray), ∃ k, law08_SchemaNil k a0 = some true) (os : Os) (started : os.Started) (H : Type) (enc : TypeId × Value → H) :
    ReturnsInHanded {} Try.checked os 9 .any (Rows.schemaNilSpec.pre6 enc Try.prog Try.f9 Rows.schemaNilRow.domain false) (Rows.schemaNilSpec.post enc Try.prog Try.f9 false true false false) := by
  refine returnsInHanded_of_change (C := Try.checked) ownknob started (by kernel_rfl) Try.func9 (ChangeSpec.witness6 (enc := enc) (C := Try.checked) false ⟨#[], #[.string ⟨#[]⟩], []⟩ 8 (by kernel_rfl) (by kernel_rfl) (by kernel_rfl) (by kernel_rfl)) ?_
  intro W base args ds gs before hval0 hW hcnd _
  have hval : ∀ (j : Nat) t v, Try.f9.params[j]? = some t → args[j]? = some v → Value.okWide Try.prog W .any base t v := hval0
  have hW' := hW
  obtain ⟨p, q, hA0, hV, rfl, hfz, hnd⟩ := hW
  have hA : DataW.TrodAll enc Try.prog W 0 (fun _ => true) true Try.f9.params.toList args.toList ds p := hA0
  rw [Try.params9] at hA hval
  obtain ⟨v0, vs0, d0, ds0, p0, q0, hargs, rfl, rfl, h0, r0⟩ := trodAll_cons hA
  obtain ⟨rfl, rfl, rfl⟩ := trodAll_nil r0
  obtain rfl : args = #[v0] := by cases args; simp_all
  obtain ⟨rfl, rfl⟩ := trodVars_none hV
  obtain ⟨n0, l0, hr0, hl0⟩ := rep_arg (TS := [9]) (by kernel_rfl) (t := 9) (by decide) h0
  rw [one_of (hval 0 9 v0 rfl rfl) (by kernel_rfl)] at hr0
  obtain ⟨a0, rfl, _⟩ := Lv.str Try.underlying9 (hl0)
  have hv0 := rep_str.1 (repF_one.1 hr0); obtain rfl : v0 = _ := List.singleton_inj.1 hv0
  obtain ⟨k, hk⟩ := hlaw a0
  refine (law08_SchemaNil.ok k a0 true hk W (hG W)  (Inv.start (inG_hG W)) ).mono ?_
  rintro e W' ⟨v, G', L', rfl, hI, _, rfl⟩
  exact ⟨_, rfl, post_law (by kernel_rfl) (by rw [Try.params9]; intro t ht; simp only [Array.toList] at ht; revert t; decide +kernel) rfl rfl Try.underlying4 hW' hI.below rfl⟩
theorem law08_SchemaNil.row (hlaw : ∀ (a0 : ByteArray), ∃ k, law08_SchemaNil k a0 = some true) : Rows.SchemaNilSaid :=
  OpenClaim.holds_of_wide 9 Try.f9 rfl rfl rfl rfl rfl rfl rfl ⟨rfl, rfl, rfl, rfl, rfl⟩ rfl rfl rfl rfl rfl (by kernel_rfl) Try.func9 (by kernel_rfl)
    (of_decide_eq_true (by kernel_rfl)) (by unfold Func.isWrapper; first | (rw [if_pos (by decide +kernel)]; kernel_rfl) | (rw [if_neg (by decide +kernel)]; exact ⟨rfl, rfl⟩))
    (fun os started H enc _ => law08_SchemaNil.lifted hlaw os started H enc)
end Go.Proofs.Ytliaopbgkcdibaa
