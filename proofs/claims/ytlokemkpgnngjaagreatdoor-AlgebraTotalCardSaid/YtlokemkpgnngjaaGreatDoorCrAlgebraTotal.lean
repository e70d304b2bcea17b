/- The row: the law holds as it is stated, if its plain function answers true whatever the input. Written by rows.py. -/
import Derived.Test.YtlokemkpgnngjaaGreatDoorRows
import Derived.Test.YtlokemkpgnngjaaGreatDoorCxR
import Derived.Test.YtlokemkpgnngjaaGreatDoorCgM1
import Derived.WalkKit
import Derived.ProofKit
import Derived.OpenShut
import Derived.LaidMore
import Derived.Stop.Joined
import Derived.Lay
set_option linter.unusedVariables false
set_option linter.unusedSimpArgs false
set_option maxRecDepth 100000
namespace Go.Proofs.YtlokemkpgnngjaaGreatDoor
open Go.ChangeShapes Go.WideShapes Go.ChangeAt Go.RowKit
theorem ownknob : ownKnob Tryz.prog.godebug = none := by kernel_rfl
theorem decs_25 (n : Nat) : (∀ l, Lv Tryz.prog n 25 l → ∃ x : TNode, D.st l = x.d) ∧ (∀ l, Lv Tryz.prog n 30 l → ∃ x : TPlan, D.st l = x.d) ∧ (∀ l, Lv Tryz.prog n 190 l → ∃ x : TGather, D.st l = x.d) := by
  induction n using Nat.strongRecOn with
  | _ n0 ih =>
    have ih_25 : ∀ m, m < n0 → ∀ l, Lv Tryz.prog m 25 l → ∃ x : TNode, D.st l = x.d := fun m hm => (ih m hm).1
    have ih_30 : ∀ m, m < n0 → ∀ l, Lv Tryz.prog m 30 l → ∃ x : TPlan, D.st l = x.d := fun m hm => (ih m hm).2.1
    have ih_190 : ∀ m, m < n0 → ∀ l, Lv Tryz.prog m 190 l → ∃ x : TGather, D.st l = x.d := fun m hm => (ih m hm).2.2
    refine ⟨?_, ?_, ?_⟩
    · intro l h
      obtain ⟨n, hn, ps, rfl, hl, hf⟩ := Lv.struct (ts := [3, 3, 9, 22, 23]) Tryz.underlying25 rfl h
      match ps, hl with
      | [l0, l1, l2, l3, l4], _ =>
        obtain ⟨x0, rfl, _⟩ := Lv.int Tryz.underlying3 (hf 0 3 l0 rfl rfl)
        obtain ⟨x1, rfl, _⟩ := Lv.int Tryz.underlying3 (hf 1 3 l1 rfl rfl)
        obtain ⟨x2, rfl, _⟩ := Lv.str Tryz.underlying9 (hf 2 9 l2 rfl rfl)
        obtain ⟨x3, rfl⟩ := Lv.slice (sz := 5) (g := TNode.d) Tryz.underlying22 (by kernel_rfl) (fun m l hm h => by obtain ⟨x, hx⟩ := (ih_25 m (by omega) l h); exact ⟨x, (elD_agg (by kernel_rfl)).trans hx⟩) (hf 3 22 l3 rfl rfl)
        obtain ⟨x4, rfl⟩ := Lv.slice (sz := 8) (g := TPlan.d) Tryz.underlying23 (by kernel_rfl) (fun m l hm h => by obtain ⟨x, hx⟩ := (ih_30 m (by omega) l h); exact ⟨x, (elD_agg (by kernel_rfl)).trans hx⟩) (hf 4 23 l4 rfl rfl)
        exact ⟨TNode.mk x0 x1 x2 x3 x4, by simp [TNode.d, TNode.ds_eq, TPlan.ds_eq, TGather.ds_eq]⟩
    · intro l h
      obtain ⟨n, hn, ps, rfl, hl, hf⟩ := Lv.struct (ts := [3, 3, 23, 22, 26, 27, 28, 3]) Tryz.underlying30 rfl h
      match ps, hl with
      | [l0, l1, l2, l3, l4, l5, l6, l7], _ =>
        obtain ⟨x0, rfl, _⟩ := Lv.int Tryz.underlying3 (hf 0 3 l0 rfl rfl)
        obtain ⟨x1, rfl, _⟩ := Lv.int Tryz.underlying3 (hf 1 3 l1 rfl rfl)
        obtain ⟨x2, rfl⟩ := Lv.slice (sz := 8) (g := TPlan.d) Tryz.underlying23 (by kernel_rfl) (fun m l hm h => by obtain ⟨x, hx⟩ := (ih_30 m (by omega) l h); exact ⟨x, (elD_agg (by kernel_rfl)).trans hx⟩) (hf 2 23 l2 rfl rfl)
        obtain ⟨x3, rfl⟩ := Lv.slice (sz := 5) (g := TNode.d) Tryz.underlying22 (by kernel_rfl) (fun m l hm h => by obtain ⟨x, hx⟩ := (ih_25 m (by omega) l h); exact ⟨x, (elD_agg (by kernel_rfl)).trans hx⟩) (hf 3 22 l3 rfl rfl)
        obtain ⟨x4, rfl⟩ := Lv.slice (sz := 1) (g := (D.int .i64)) Tryz.underlying26 (by kernel_rfl) (fun m l hm h => by obtain ⟨x, rfl, _⟩ := Lv.int Tryz.underlying3 h; exact ⟨x, elD_one (by kernel_rfl)⟩) (hf 4 26 l4 rfl rfl)
        obtain ⟨x5, rfl⟩ := Lv.slice (sz := 2) (g := TGather.d) Tryz.underlying27 (by kernel_rfl) (fun m l hm h => by obtain ⟨x, hx⟩ := (ih_190 m (by omega) l h); exact ⟨x, (elD_agg (by kernel_rfl)).trans hx⟩) (hf 5 27 l5 rfl rfl)
        obtain ⟨x6, rfl⟩ := Lv.slice (sz := 1) (g := D.bool) Tryz.underlying28 (by kernel_rfl) (fun m l hm h => by obtain ⟨x, rfl⟩ := Lv.bool Tryz.underlying4 h; exact ⟨x, elD_one (by kernel_rfl)⟩) (hf 6 28 l6 rfl rfl)
        obtain ⟨x7, rfl, _⟩ := Lv.int Tryz.underlying3 (hf 7 3 l7 rfl rfl)
        exact ⟨TPlan.mk x0 x1 x2 x3 x4 x5 x6 x7, by simp [TPlan.d, TNode.ds_eq, TPlan.ds_eq, TGather.ds_eq]⟩
    · intro l h
      obtain ⟨n, hn, ps, rfl, hl, hf⟩ := Lv.struct (ts := [9, 22]) Tryz.underlying190 rfl h
      match ps, hl with
      | [l0, l1], _ =>
        obtain ⟨x0, rfl, _⟩ := Lv.str Tryz.underlying9 (hf 0 9 l0 rfl rfl)
        obtain ⟨x1, rfl⟩ := Lv.slice (sz := 5) (g := TNode.d) Tryz.underlying22 (by kernel_rfl) (fun m l hm h => by obtain ⟨x, hx⟩ := (ih_25 m (by omega) l h); exact ⟨x, (elD_agg (by kernel_rfl)).trans hx⟩) (hf 1 22 l1 rfl rfl)
        exact ⟨TGather.mk x0 x1, by simp [TGather.d, TNode.ds_eq, TPlan.ds_eq, TGather.ds_eq]⟩
theorem dec_25 : ∀ (n : Nat) (l : List D), Lv Tryz.prog n 25 l → ∃ x : TNode, D.st l = x.d := fun n => (decs_25 n).1
theorem dec_30 : ∀ (n : Nat) (l : List D), Lv Tryz.prog n 30 l → ∃ x : TPlan, D.st l = x.d := fun n => (decs_25 n).2.1
theorem dec_190 : ∀ (n : Nat) (l : List D), Lv Tryz.prog n 190 l → ∃ x : TGather, D.st l = x.d := fun n => (decs_25 n).2.2
set_option maxRecDepth 100000 in
theorem law10_AlgebraTotal.lifted (hlaw : ∀ (a0 : TNode) (a1 : TNode), ∃ k, law10_AlgebraTotal k a0 a1 = some true) (os : Os) (started : os.Started) (H : Type) (enc : TypeId × Value → H) :
    ReturnsInHanded {} Tryz.checked os 4 .any (fun w args => (Rows.algebraTotalSpec.pre enc Tryz.prog Tryz.f4 [] false w args ∧ laidMetH Tryz.prog [("math/bits.deBruijn32tab", Rows.laid_math_bits_deBruijn32tab), ("math/bits.deBruijn64tab", Rows.laid_math_bits_deBruijn64tab), ("internal/strconv.uint64pow10", Rows.laid_internal_strconv_uint64pow10), ("unicode/utf8.acceptRanges", Rows.laid_unicode_utf8_acceptRanges), ("unicode/utf8.first", Rows.laid_unicode_utf8_first)] w) ∧ sizedMet enc Tryz.prog Tryz.f4 (OpenSpec.ofChange Rows.algebraTotalSpec) false w args) (Rows.algebraTotalSpec.post enc Tryz.prog Tryz.f4 false true false false) := by
  refine returnsInHanded_of_change_and (C := Tryz.checked) (X := fun w _ => laidMetH Tryz.prog [("math/bits.deBruijn32tab", Rows.laid_math_bits_deBruijn32tab), ("math/bits.deBruijn64tab", Rows.laid_math_bits_deBruijn64tab), ("internal/strconv.uint64pow10", Rows.laid_internal_strconv_uint64pow10), ("unicode/utf8.acceptRanges", Rows.laid_unicode_utf8_acceptRanges), ("unicode/utf8.first", Rows.laid_unicode_utf8_first)] w) (fun _ _ _ hh h => h.of_heap hh) ownknob started (by kernel_rfl) Tryz.func4 (ChangeSpec.witness_shaped (enc := enc) (C := Tryz.checked) (os := os) (X := fun w _ => laidMetH Tryz.prog [("math/bits.deBruijn32tab", Rows.laid_math_bits_deBruijn32tab), ("math/bits.deBruijn64tab", Rows.laid_math_bits_deBruijn64tab), ("internal/strconv.uint64pow10", Rows.laid_internal_strconv_uint64pow10), ("unicode/utf8.acceptRanges", Rows.laid_unicode_utf8_acceptRanges), ("unicode/utf8.first", Rows.laid_unicode_utf8_first)] w) false (World.laidAll Tryz.prog os [("math/bits.deBruijn32tab", Rows.laid_math_bits_deBruijn32tab), ("math/bits.deBruijn64tab", Rows.laid_math_bits_deBruijn64tab), ("internal/strconv.uint64pow10", Rows.laid_internal_strconv_uint64pow10), ("unicode/utf8.acceptRanges", Rows.laid_unicode_utf8_acceptRanges), ("unicode/utf8.first", Rows.laid_unicode_utf8_first)]) #[.agg #[.int .i64 0, .int .i64 0, .string ⟨#[]⟩, .slice none 0 0, .slice none 0 0], .agg #[.int .i64 0, .int .i64 0, .string ⟨#[]⟩, .slice none 0 0, .slice none 0 0]] 8 (World.laidAll_os _ _ _) (World.shaped_of_ZipB (by kernel_rfl) (by kernel_rfl)) (by kernel_rfl) (by kernel_rfl) (by kernel_rfl) (by rw [MakeChecks.laidMetH_plain _ _ _ (by kernel_rfl)]; exact laidMet_laidAll _ (by kernel_rfl) (by kernel_rfl))) ?_
  intro W base args ds gs before hval0 hW _ _ hLaid _

  have hval : ∀ (j : Nat) t v, Tryz.f4.params[j]? = some t → args[j]? = some v → Value.okWide Tryz.prog W .any base t v := hval0
  have hW' := hW
  obtain ⟨p, q, hA0, hV, rfl, hfz, hnd⟩ := hW
  have hA : DataW.TrodAll enc Tryz.prog W 0 (fun _ => true) true Tryz.f4.params.toList args.toList ds p := hA0
  rw [Tryz.params4] at hA hval
  obtain ⟨v0, vs0, d0, ds0, p0, q0, hargs, rfl, rfl, h0, r0⟩ := trodAll_cons hA
  obtain ⟨v1, vs1, d1, ds1, p1, q1, rfl, rfl, rfl, h1, r1⟩ := trodAll_cons r0
  obtain ⟨rfl, rfl, rfl⟩ := trodAll_nil r1
  obtain rfl : args = #[v0, v1] := by cases args; simp_all
  obtain ⟨rfl, rfl⟩ := trodVars_none hV
  obtain ⟨n0, l0, hr0, hl0⟩ := rep_arg (TS := [25, 3, 9, 22, 23, 30, 26, 27, 190, 28, 4]) (by kernel_rfl) (t := 25) (by decide) h0
  obtain ⟨a0, ha0⟩ := dec_25 n0 l0 hl0; obtain ⟨cs0, rfl⟩ : ∃ cs, v0 = .agg ⟨cs⟩ := agg_of (hval 0 25 v0 rfl rfl) (by kernel_rfl)
  have hR0 : Rep (hG W) a0.d cs0 := by rw [← ha0]; exact rep_st.2 hr0
  obtain ⟨n1, l1, hr1, hl1⟩ := rep_arg (TS := [25, 3, 9, 22, 23, 30, 26, 27, 190, 28, 4]) (by kernel_rfl) (t := 25) (by decide) h1
  obtain ⟨a1, ha1⟩ := dec_25 n1 l1 hl1; obtain ⟨cs1, rfl⟩ : ∃ cs, v1 = .agg ⟨cs⟩ := agg_of (hval 1 25 v1 rfl rfl) (by kernel_rfl)
  have hR1 : Rep (hG W) a1.d cs1 := by rw [← ha1]; exact rep_st.2 hr1
  obtain ⟨k, hk⟩ := hlaw a0 a1
  refine (@law10_AlgebraTotal.ok k a0 a1 true hk W (hG W) _ _ (Inv.start (inG_hG W))  hR0 hR1).mono ?_
  rintro e W' ⟨v, G', L', rfl, hI, _, rfl⟩
  exact ⟨_, rfl, post_law (by kernel_rfl) (by rw [Tryz.params4]; intro t ht; simp only [Array.toList] at ht; revert t; decide +kernel) rfl rfl Tryz.underlying4 hW' hI.below rfl⟩
theorem law10_AlgebraTotal.fact0 : Tryz.prog.inPlace 4 = Rows.algebraTotalRow.inPlace := by kernel_rfl
theorem law10_AlgebraTotal.fact1 : Tryz.prog.unfollowed 4 = Rows.algebraTotalRow.unfollowed := by kernel_rfl
theorem law10_AlgebraTotal.fact2 : Tryz.prog.recurses 4 = Rows.algebraTotalRow.recurses := by kernel_rfl
theorem law10_AlgebraTotal.fact3 : Tryz.prog.varsNamed 4 = Rows.algebraTotalRow.named := by kernel_rfl
theorem law10_AlgebraTotal.fact4 : Tryz.prog.liftsFinal = Rows.algebraTotalRow.lifted := by kernel_rfl
theorem law10_AlgebraTotal.fact5 : Tryz.prog.stopsHeard = true := by kernel_rfl
theorem law10_AlgebraTotal.fact6 : Tryz.prog.mayEnter = true := by kernel_rfl
theorem law10_AlgebraTotal.joined : joinedFacts Tryz.prog 4 Tryz.f4 Rows.algebraTotalSpec Rows.algebraTotalRow = true := by
  unfold joinedFacts
  rw [law10_AlgebraTotal.fact0, law10_AlgebraTotal.fact1, law10_AlgebraTotal.fact2, law10_AlgebraTotal.fact3, law10_AlgebraTotal.fact4, law10_AlgebraTotal.fact5, law10_AlgebraTotal.fact6]
  kernel_rfl
theorem law10_AlgebraTotal.row (hlaw : ∀ (a0 : TNode) (a1 : TNode), ∃ k, law10_AlgebraTotal k a0 a1 = some true) : Rows.AlgebraTotalSaid :=
  OpenClaim.holds_of_wide 4 Tryz.f4 rfl rfl rfl rfl rfl rfl rfl ⟨rfl, rfl, rfl, rfl, rfl⟩ rfl rfl rfl rfl rfl (by kernel_rfl) Tryz.func4 law10_AlgebraTotal.joined
    (of_decide_eq_true (by kernel_rfl)) (by unfold Func.isWrapper; first | (rw [if_pos (by decide +kernel)]; kernel_rfl) | (rw [if_neg (by decide +kernel)]; exact ⟨rfl, rfl⟩))
    (fun os started H enc _ => law10_AlgebraTotal.lifted hlaw os started H enc)
end Go.Proofs.YtlokemkpgnngjaaGreatDoor
