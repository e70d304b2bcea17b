/- The row: the law holds as it is stated, if its plain function answers true whatever the input. Written by rows.py. -/
import Derived.Test.YtliaopbgkcdibaaRows
import Derived.Test.YtliaopbgkcdibaaCxR
import Derived.Test.YtliaopbgkcdibaaCgW3
import Derived.WalkKit
import Derived.ProofKit
import Derived.OpenShut
set_option linter.unusedVariables false
set_option linter.unusedSimpArgs false
set_option maxRecDepth 100000
namespace Go.Proofs.Ytliaopbgkcdibaa
open Go.ChangeShapes Go.WideShapes Go.ChangeAt Go.RowKit
theorem ownknob : ownKnob Try.prog.godebug = none := by kernel_rfl
theorem decs_51 (n : Nat) : (∀ l, Lv Try.prog n 51 l → ∃ x : TPlan, D.st l = x.d) ∧ (∀ l, Lv Try.prog n 89 l → ∃ x : TGather, D.st l = x.d) ∧ (∀ l, Lv Try.prog n 129 l → ∃ x : TNode, D.st l = x.d) := by
  induction n using Nat.strongRecOn with
  | _ n0 ih =>
    have ih_51 : ∀ m, m < n0 → ∀ l, Lv Try.prog m 51 l → ∃ x : TPlan, D.st l = x.d := fun m hm => (ih m hm).1
    have ih_89 : ∀ m, m < n0 → ∀ l, Lv Try.prog m 89 l → ∃ x : TGather, D.st l = x.d := fun m hm => (ih m hm).2.1
    have ih_129 : ∀ m, m < n0 → ∀ l, Lv Try.prog m 129 l → ∃ x : TNode, D.st l = x.d := fun m hm => (ih m hm).2.2
    refine ⟨?_, ?_, ?_⟩
    · intro l h
      obtain ⟨n, hn, ps, rfl, hl, hf⟩ := Lv.struct (ts := [3, 3, 46, 47, 45, 48, 49, 3]) Try.underlying51 rfl h
      match ps, hl with
      | [l0, l1, l2, l3, l4, l5, l6, l7], _ =>
        obtain ⟨x0, rfl, _⟩ := Lv.int Try.underlying3 (hf 0 3 l0 rfl rfl)
        obtain ⟨x1, rfl, _⟩ := Lv.int Try.underlying3 (hf 1 3 l1 rfl rfl)
        obtain ⟨x2, rfl⟩ := Lv.slice (sz := 8) (g := TPlan.d) Try.underlying46 (by kernel_rfl) (fun m l hm h => by obtain ⟨x, hx⟩ := (ih_51 m (by omega) l h); exact ⟨x, (elD_agg (by kernel_rfl)).trans hx⟩) (hf 2 46 l2 rfl rfl)
        obtain ⟨x3, rfl⟩ := Lv.slice (sz := 5) (g := TNode.d) Try.underlying47 (by kernel_rfl) (fun m l hm h => by obtain ⟨x, hx⟩ := (ih_129 m (by omega) l h); exact ⟨x, (elD_agg (by kernel_rfl)).trans hx⟩) (hf 3 47 l3 rfl rfl)
        obtain ⟨x4, rfl⟩ := Lv.slice (sz := 1) (g := (D.int .i64)) Try.underlying45 (by kernel_rfl) (fun m l hm h => by obtain ⟨x, rfl, _⟩ := Lv.int Try.underlying3 h; exact ⟨x, elD_one (by kernel_rfl)⟩) (hf 4 45 l4 rfl rfl)
        obtain ⟨x5, rfl⟩ := Lv.slice (sz := 2) (g := TGather.d) Try.underlying48 (by kernel_rfl) (fun m l hm h => by obtain ⟨x, hx⟩ := (ih_89 m (by omega) l h); exact ⟨x, (elD_agg (by kernel_rfl)).trans hx⟩) (hf 5 48 l5 rfl rfl)
        obtain ⟨x6, rfl⟩ := Lv.slice (sz := 1) (g := D.bool) Try.underlying49 (by kernel_rfl) (fun m l hm h => by obtain ⟨x, rfl⟩ := Lv.bool Try.underlying4 h; exact ⟨x, elD_one (by kernel_rfl)⟩) (hf 6 49 l6 rfl rfl)
        obtain ⟨x7, rfl, _⟩ := Lv.int Try.underlying3 (hf 7 3 l7 rfl rfl)
        exact ⟨TPlan.mk x0 x1 x2 x3 x4 x5 x6 x7, by simp [TPlan.d, TPlan.ds_eq, TGather.ds_eq, TNode.ds_eq]⟩
    · intro l h
      obtain ⟨n, hn, ps, rfl, hl, hf⟩ := Lv.struct (ts := [9, 47]) Try.underlying89 rfl h
      match ps, hl with
      | [l0, l1], _ =>
        obtain ⟨x0, rfl, _⟩ := Lv.str Try.underlying9 (hf 0 9 l0 rfl rfl)
        obtain ⟨x1, rfl⟩ := Lv.slice (sz := 5) (g := TNode.d) Try.underlying47 (by kernel_rfl) (fun m l hm h => by obtain ⟨x, hx⟩ := (ih_129 m (by omega) l h); exact ⟨x, (elD_agg (by kernel_rfl)).trans hx⟩) (hf 1 47 l1 rfl rfl)
        exact ⟨TGather.mk x0 x1, by simp [TGather.d, TPlan.ds_eq, TGather.ds_eq, TNode.ds_eq]⟩
    · intro l h
      obtain ⟨n, hn, ps, rfl, hl, hf⟩ := Lv.struct (ts := [3, 3, 9, 47, 46]) Try.underlying129 rfl h
      match ps, hl with
      | [l0, l1, l2, l3, l4], _ =>
        obtain ⟨x0, rfl, _⟩ := Lv.int Try.underlying3 (hf 0 3 l0 rfl rfl)
        obtain ⟨x1, rfl, _⟩ := Lv.int Try.underlying3 (hf 1 3 l1 rfl rfl)
        obtain ⟨x2, rfl, _⟩ := Lv.str Try.underlying9 (hf 2 9 l2 rfl rfl)
        obtain ⟨x3, rfl⟩ := Lv.slice (sz := 5) (g := TNode.d) Try.underlying47 (by kernel_rfl) (fun m l hm h => by obtain ⟨x, hx⟩ := (ih_129 m (by omega) l h); exact ⟨x, (elD_agg (by kernel_rfl)).trans hx⟩) (hf 3 47 l3 rfl rfl)
        obtain ⟨x4, rfl⟩ := Lv.slice (sz := 8) (g := TPlan.d) Try.underlying46 (by kernel_rfl) (fun m l hm h => by obtain ⟨x, hx⟩ := (ih_51 m (by omega) l h); exact ⟨x, (elD_agg (by kernel_rfl)).trans hx⟩) (hf 4 46 l4 rfl rfl)
        exact ⟨TNode.mk x0 x1 x2 x3 x4, by simp [TNode.d, TPlan.ds_eq, TGather.ds_eq, TNode.ds_eq]⟩
theorem dec_51 : ∀ (n : Nat) (l : List D), Lv Try.prog n 51 l → ∃ x : TPlan, D.st l = x.d := fun n => (decs_51 n).1
theorem dec_89 : ∀ (n : Nat) (l : List D), Lv Try.prog n 89 l → ∃ x : TGather, D.st l = x.d := fun n => (decs_51 n).2.1
theorem dec_129 : ∀ (n : Nat) (l : List D), Lv Try.prog n 129 l → ∃ x : TNode, D.st l = x.d := fun n => (decs_51 n).2.2
set_option maxRecDepth 100000 in
theorem law21_WeighMore.lifted (hlaw : ∀ (a0 : List Int) (a1 : TPlan) (a2 : Int) (a3 : Int), ∃ k, law21_WeighMore k a0 a1 a2 a3 = some true) (os : Os) (started : os.Started) (H : Type) (enc : TypeId × Value → H) :
    ReturnsInHanded {} Try.checked os 8 .any (Rows.weighMoreSpec.pre6 enc Try.prog Try.f8 Rows.weighMoreRow.domain false) (Rows.weighMoreSpec.post enc Try.prog Try.f8 false true false false) := by
  refine returnsInHanded_of_change (C := Try.checked) ownknob started (by kernel_rfl) Try.func8 (ChangeSpec.witness6 (enc := enc) (C := Try.checked) false ⟨#[], #[.slice none 0 0, .agg #[.int .i64 0, .int .i64 0, .slice none 0 0, .slice none 0 0, .slice none 0 0, .slice none 0 0, .slice none 0 0, .int .i64 0], .int .i64 0, .int .i64 0], []⟩ 8 (by kernel_rfl) (by kernel_rfl) (by kernel_rfl) (by kernel_rfl)) ?_
  intro W base args ds gs before hval0 hW hcnd _
  have hval : ∀ (j : Nat) t v, Try.f8.params[j]? = some t → args[j]? = some v → Value.okWide Try.prog W .any base t v := hval0
  have hW' := hW
  obtain ⟨p, q, hA0, hV, rfl, hfz, hnd⟩ := hW
  have hA : DataW.TrodAll enc Try.prog W 0 (fun _ => true) true Try.f8.params.toList args.toList ds p := hA0
  rw [Try.params8] at hA hval
  obtain ⟨v0, vs0, d0, ds0, p0, q0, hargs, rfl, rfl, h0, r0⟩ := trodAll_cons hA
  obtain ⟨v1, vs1, d1, ds1, p1, q1, rfl, rfl, rfl, h1, r1⟩ := trodAll_cons r0
  obtain ⟨v2, vs2, d2, ds2, p2, q2, rfl, rfl, rfl, h2, r2⟩ := trodAll_cons r1
  obtain ⟨v3, vs3, d3, ds3, p3, q3, rfl, rfl, rfl, h3, r3⟩ := trodAll_cons r2
  obtain ⟨rfl, rfl, rfl⟩ := trodAll_nil r3
  obtain rfl : args = #[v0, v1, v2, v3] := by cases args; simp_all
  obtain ⟨rfl, rfl⟩ := trodVars_none hV
  obtain ⟨n0, l0, hr0, hl0⟩ := rep_arg (TS := [45, 3, 51, 46, 47, 129, 9, 48, 89, 49, 4]) (by kernel_rfl) (t := 45) (by decide) h0
  rw [one_of (hval 0 45 v0 rfl rfl) (by kernel_rfl)] at hr0
  obtain ⟨a0, rfl⟩ := Lv.slice (sz := 1) (g := (D.int .i64)) Try.underlying45 (by kernel_rfl) (fun m l hm h => by obtain ⟨x, rfl, _⟩ := Lv.int Try.underlying3 h; exact ⟨x, elD_one (by kernel_rfl)⟩) (hl0)
  obtain ⟨A0, c0, hv0, hR0⟩ := rep_slm.1 (repF_one.1 hr0); obtain rfl : v0 = _ := List.singleton_inj.1 hv0
  obtain ⟨n1, l1, hr1, hl1⟩ := rep_arg (TS := [45, 3, 51, 46, 47, 129, 9, 48, 89, 49, 4]) (by kernel_rfl) (t := 51) (by decide) h1
  obtain ⟨a1, ha1⟩ := dec_51 n1 l1 hl1; obtain ⟨cs1, rfl⟩ : ∃ cs, v1 = .agg ⟨cs⟩ := agg_of (hval 1 51 v1 rfl rfl) (by kernel_rfl)
  have hR1 : Rep (hG W) a1.d cs1 := by rw [← ha1]; exact rep_st.2 hr1
  obtain ⟨n2, l2, hr2, hl2⟩ := rep_arg (TS := [45, 3, 51, 46, 47, 129, 9, 48, 89, 49, 4]) (by kernel_rfl) (t := 3) (by decide) h2
  rw [one_of (hval 2 3 v2 rfl rfl) (by kernel_rfl)] at hr2
  obtain ⟨a2, rfl, _⟩ := Lv.int Try.underlying3 (hl2)
  have hv2 := rep_int.1 (repF_one.1 hr2); obtain rfl : v2 = _ := List.singleton_inj.1 hv2
  obtain ⟨n3, l3, hr3, hl3⟩ := rep_arg (TS := [45, 3, 51, 46, 47, 129, 9, 48, 89, 49, 4]) (by kernel_rfl) (t := 3) (by decide) h3
  rw [one_of (hval 3 3 v3 rfl rfl) (by kernel_rfl)] at hr3
  obtain ⟨a3, rfl, _⟩ := Lv.int Try.underlying3 (hl3)
  have hv3 := rep_int.1 (repF_one.1 hr3); obtain rfl : v3 = _ := List.singleton_inj.1 hv3
  obtain ⟨k, hk⟩ := hlaw a0 a1 a2 a3
  refine (law21_WeighMore.ok k a0 a1 a2 a3 true hk W (hG W) _ _ _ (Inv.start (inG_hG W)) hR0 hR1).mono ?_
  rintro e W' ⟨v, G', L', rfl, hI, _, rfl⟩
  exact ⟨_, rfl, post_law (by kernel_rfl) (by rw [Try.params8]; intro t ht; simp only [Array.toList] at ht; revert t; decide +kernel) rfl rfl Try.underlying4 hW' hI.below rfl⟩
theorem law21_WeighMore.row (hlaw : ∀ (a0 : List Int) (a1 : TPlan) (a2 : Int) (a3 : Int), ∃ k, law21_WeighMore k a0 a1 a2 a3 = some true) : Rows.WeighMoreSaid :=
  OpenClaim.holds_of_wide 8 Try.f8 rfl rfl rfl rfl rfl rfl rfl ⟨rfl, rfl, rfl, rfl, rfl⟩ rfl rfl rfl rfl rfl (by kernel_rfl) Try.func8 (by kernel_rfl)
    (of_decide_eq_true (by kernel_rfl)) (by unfold Func.isWrapper; first | (rw [if_pos (by decide +kernel)]; kernel_rfl) | (rw [if_neg (by decide +kernel)]; exact ⟨rfl, rfl⟩))
    (fun os started H enc _ => law21_WeighMore.lifted hlaw os started H enc)
end Go.Proofs.Ytliaopbgkcdibaa
