/- The row: the law holds as it is stated, if its plain function answers true whatever the input. Written by rows.py. -/
import Derived.Test.YtlokemkpgnngjaaGreatDoorRows
import Derived.Test.YtlokemkpgnngjaaGreatDoorCxR
import Derived.Test.YtlokemkpgnngjaaGreatDoorCgA0
import Derived.WalkKit
import Derived.ProofKit
import Derived.OpenShut
import Derived.LaidMore
import Derived.Stop.Joined
import Derived.Lay
set_option linter.unusedVariables false
set_option linter.unusedSimpArgs false
set_option maxRecDepth 100000
namespace Go.Proofs.YtlokemkpgnngjaaGreatDoor
open Go.ChangeShapes Go.WideShapes Go.ChangeAt Go.RowKit
theorem ownknob : ownKnob Tryz.prog.godebug = none := by kernel_rfl
theorem decs_25 (n : Nat) : (∀ l, Lv Tryz.prog n 25 l → ∃ x : TNode, D.st l = x.d) ∧ (∀ l, Lv Tryz.prog n 30 l → ∃ x : TPlan, D.st l = x.d) ∧ (∀ l, Lv Tryz.prog n 190 l → ∃ x : TGather, D.st l = x.d) := by
  induction n using Nat.strongRecOn with
  | _ n0 ih =>
    have ih_25 : ∀ m, m < n0 → ∀ l, Lv Tryz.prog m 25 l → ∃ x : TNode, D.st l = x.d := fun m hm => (ih m hm).1
    have ih_30 : ∀ m, m < n0 → ∀ l, Lv Tryz.prog m 30 l → ∃ x : TPlan, D.st l = x.d := fun m hm => (ih m hm).2.1
    have ih_190 : ∀ m, m < n0 → ∀ l, Lv Tryz.prog m 190 l → ∃ x : TGather, D.st l = x.d := fun m hm => (ih m hm).2.2
    refine ⟨?_, ?_, ?_⟩
    · intro l h
      obtain ⟨n, hn, ps, rfl, hl, hf⟩ := Lv.struct (ts := [3, 3, 9, 22, 23]) Tryz.underlying25 rfl h
      match ps, hl with
      | [l0, l1, l2, l3, l4], _ =>
        obtain ⟨x0, rfl, _⟩ := Lv.int Tryz.underlying3 (hf 0 3 l0 rfl rfl)
        obtain ⟨x1, rfl, _⟩ := Lv.int Tryz.underlying3 (hf 1 3 l1 rfl rfl)
        obtain ⟨x2, rfl, _⟩ := Lv.str Tryz.underlying9 (hf 2 9 l2 rfl rfl)
        obtain ⟨x3, rfl⟩ := Lv.slice (sz := 5) (g := TNode.d) Tryz.underlying22 (by kernel_rfl) (fun m l hm h => by obtain ⟨x, hx⟩ := (ih_25 m (by omega) l h); exact ⟨x, (elD_agg (by kernel_rfl)).trans hx⟩) (hf 3 22 l3 rfl rfl)
        obtain ⟨x4, rfl⟩ := Lv.slice (sz := 8) (g := TPlan.d) Tryz.underlying23 (by kernel_rfl) (fun m l hm h => by obtain ⟨x, hx⟩ := (ih_30 m (by omega) l h); exact ⟨x, (elD_agg (by kernel_rfl)).trans hx⟩) (hf 4 23 l4 rfl rfl)
        exact ⟨TNode.mk x0 x1 x2 x3 x4, by simp [TNode.d, TNode.ds_eq, TPlan.ds_eq, TGather.ds_eq]⟩
    · intro l h
      obtain ⟨n, hn, ps, rfl, hl, hf⟩ := Lv.struct (ts := [3, 3, 23, 22, 26, 27, 28, 3]) Tryz.underlying30 rfl h
      match ps, hl with
      | [l0, l1, l2, l3, l4, l5, l6, l7], _ =>
        obtain ⟨x0, rfl, _⟩ := Lv.int Tryz.underlying3 (hf 0 3 l0 rfl rfl)
        obtain ⟨x1, rfl, _⟩ := Lv.int Tryz.underlying3 (hf 1 3 l1 rfl rfl)
        obtain ⟨x2, rfl⟩ := Lv.slice (sz := 8) (g := TPlan.d) Tryz.underlying23 (by kernel_rfl) (fun m l hm h => by obtain ⟨x, hx⟩ := (ih_30 m (by omega) l h); exact ⟨x, (elD_agg (by kernel_rfl)).trans hx⟩) (hf 2 23 l2 rfl rfl)
        obtain ⟨x3, rfl⟩ := Lv.slice (sz := 5) (g := TNode.d) Tryz.underlying22 (by kernel_rfl) (fun m l hm h => by obtain ⟨x, hx⟩ := (ih_25 m (by omega) l h); exact ⟨x, (elD_agg (by kernel_rfl)).trans hx⟩) (hf 3 22 l3 rfl rfl)
        obtain ⟨x4, rfl⟩ := Lv.slice (sz := 1) (g := (D.int .i64)) Tryz.underlying26 (by kernel_rfl) (fun m l hm h => by obtain ⟨x, rfl, _⟩ := Lv.int Tryz.underlying3 h; exact ⟨x, elD_one (by kernel_rfl)⟩) (hf 4 26 l4 rfl rfl)
        obtain ⟨x5, rfl⟩ := Lv.slice (sz := 2) (g := TGather.d) Tryz.underlying27 (by kernel_rfl) (fun m l hm h => by obtain ⟨x, hx⟩ := (ih_190 m (by omega) l h); exact ⟨x, (elD_agg (by kernel_rfl)).trans hx⟩) (hf 5 27 l5 rfl rfl)
        obtain ⟨x6, rfl⟩ := Lv.slice (sz := 1) (g := D.bool) Tryz.underlying28 (by kernel_rfl) (fun m l hm h => by obtain ⟨x, rfl⟩ := Lv.bool Tryz.underlying4 h; exact ⟨x, elD_one (by kernel_rfl)⟩) (hf 6 28 l6 rfl rfl)
        obtain ⟨x7, rfl, _⟩ := Lv.int Tryz.underlying3 (hf 7 3 l7 rfl rfl)
        exact ⟨TPlan.mk x0 x1 x2 x3 x4 x5 x6 x7, by simp [TPlan.d, TNode.ds_eq, TPlan.ds_eq, TGather.ds_eq]⟩
    · intro l h
      obtain ⟨n, hn, ps, rfl, hl, hf⟩ := Lv.struct (ts := [9, 22]) Tryz.underlying190 rfl h
      match ps, hl with
      | [l0, l1], _ =>
        obtain ⟨x0, rfl, _⟩ := Lv.str Tryz.underlying9 (hf 0 9 l0 rfl rfl)
        obtain ⟨x1, rfl⟩ := Lv.slice (sz := 5) (g := TNode.d) Tryz.underlying22 (by kernel_rfl) (fun m l hm h => by obtain ⟨x, hx⟩ := (ih_25 m (by omega) l h); exact ⟨x, (elD_agg (by kernel_rfl)).trans hx⟩) (hf 1 22 l1 rfl rfl)
        exact ⟨TGather.mk x0 x1, by simp [TGather.d, TNode.ds_eq, TPlan.ds_eq, TGather.ds_eq]⟩
theorem dec_25 : ∀ (n : Nat) (l : List D), Lv Tryz.prog n 25 l → ∃ x : TNode, D.st l = x.d := fun n => (decs_25 n).1
theorem dec_30 : ∀ (n : Nat) (l : List D), Lv Tryz.prog n 30 l → ∃ x : TPlan, D.st l = x.d := fun n => (decs_25 n).2.1
theorem dec_190 : ∀ (n : Nat) (l : List D), Lv Tryz.prog n 190 l → ∃ x : TGather, D.st l = x.d := fun n => (decs_25 n).2.2
set_option maxRecDepth 100000 in
theorem law22_AuditNil.lifted (hlaw : ∀ (a0 : ByteArray) (a1 : Int) (a2 : TPlan), ∃ k, law22_AuditNil k a0 a1 a2 = some true) (os : Os) (started : os.Started) (H : Type) (enc : TypeId × Value → H) :
    ReturnsInHanded {} Tryz.checked os 5 .any (fun w args => (Rows.auditNilSpec.pre enc Tryz.prog Tryz.f5 [] false w args ∧ laidMetH Tryz.prog [("math/bits.deBruijn32tab", Rows.laid_math_bits_deBruijn32tab), ("math/bits.deBruijn64tab", Rows.laid_math_bits_deBruijn64tab), ("internal/strconv.uint64pow10", Rows.laid_internal_strconv_uint64pow10), ("unicode/utf8.acceptRanges", Rows.laid_unicode_utf8_acceptRanges), ("unicode/utf8.first", Rows.laid_unicode_utf8_first)] w) ∧ sizedMet enc Tryz.prog Tryz.f5 (OpenSpec.ofChange Rows.auditNilSpec) false w args) (Rows.auditNilSpec.post enc Tryz.prog Tryz.f5 false true false false) := by
  refine returnsInHanded_of_change_and (C := Tryz.checked) (X := fun w _ => laidMetH Tryz.prog [("math/bits.deBruijn32tab", Rows.laid_math_bits_deBruijn32tab), ("math/bits.deBruijn64tab", Rows.laid_math_bits_deBruijn64tab), ("internal/strconv.uint64pow10", Rows.laid_internal_strconv_uint64pow10), ("unicode/utf8.acceptRanges", Rows.laid_unicode_utf8_acceptRanges), ("unicode/utf8.first", Rows.laid_unicode_utf8_first)] w) (fun _ _ _ hh h => h.of_heap hh) ownknob started (by kernel_rfl) Tryz.func5 (ChangeSpec.witness_shaped (enc := enc) (C := Tryz.checked) (os := os) (X := fun w _ => laidMetH Tryz.prog [("math/bits.deBruijn32tab", Rows.laid_math_bits_deBruijn32tab), ("math/bits.deBruijn64tab", Rows.laid_math_bits_deBruijn64tab), ("internal/strconv.uint64pow10", Rows.laid_internal_strconv_uint64pow10), ("unicode/utf8.acceptRanges", Rows.laid_unicode_utf8_acceptRanges), ("unicode/utf8.first", Rows.laid_unicode_utf8_first)] w) false (World.laidAll Tryz.prog os [("math/bits.deBruijn32tab", Rows.laid_math_bits_deBruijn32tab), ("math/bits.deBruijn64tab", Rows.laid_math_bits_deBruijn64tab), ("internal/strconv.uint64pow10", Rows.laid_internal_strconv_uint64pow10), ("unicode/utf8.acceptRanges", Rows.laid_unicode_utf8_acceptRanges), ("unicode/utf8.first", Rows.laid_unicode_utf8_first)]) #[.string ⟨#[]⟩, .int .i64 0, .agg #[.int .i64 0, .int .i64 0, .slice none 0 0, .slice none 0 0, .slice none 0 0, .slice none 0 0, .slice none 0 0, .int .i64 0]] 8 (World.laidAll_os _ _ _) (World.shaped_of_ZipB (by kernel_rfl) (by kernel_rfl)) (by kernel_rfl) (by kernel_rfl) (by kernel_rfl) (by rw [MakeChecks.laidMetH_plain _ _ _ (by kernel_rfl)]; exact laidMet_laidAll _ (by kernel_rfl) (by kernel_rfl))) ?_
  intro W base args ds gs before hval0 hW _ _ hLaid _

  have hval : ∀ (j : Nat) t v, Tryz.f5.params[j]? = some t → args[j]? = some v → Value.okWide Tryz.prog W .any base t v := hval0
  have hW' := hW
  obtain ⟨p, q, hA0, hV, rfl, hfz, hnd⟩ := hW
  have hA : DataW.TrodAll enc Tryz.prog W 0 (fun _ => true) true Tryz.f5.params.toList args.toList ds p := hA0
  rw [Tryz.params5] at hA hval
  obtain ⟨v0, vs0, d0, ds0, p0, q0, hargs, rfl, rfl, h0, r0⟩ := trodAll_cons hA
  obtain ⟨v1, vs1, d1, ds1, p1, q1, rfl, rfl, rfl, h1, r1⟩ := trodAll_cons r0
  obtain ⟨v2, vs2, d2, ds2, p2, q2, rfl, rfl, rfl, h2, r2⟩ := trodAll_cons r1
  obtain ⟨rfl, rfl, rfl⟩ := trodAll_nil r2
  obtain rfl : args = #[v0, v1, v2] := by cases args; simp_all
  obtain ⟨rfl, rfl⟩ := trodVars_none hV
  obtain ⟨n0, l0, hr0, hl0⟩ := rep_arg (TS := [9, 3, 30, 23, 22, 25, 26, 27, 190, 28, 4]) (by kernel_rfl) (t := 9) (by decide) h0
  rw [one_of (hval 0 9 v0 rfl rfl) (by kernel_rfl)] at hr0
  obtain ⟨a0, rfl, _⟩ := Lv.str Tryz.underlying9 (hl0)
  have hv0 := rep_str.1 (repF_one.1 hr0); obtain rfl : v0 = _ := List.singleton_inj.1 hv0
  obtain ⟨n1, l1, hr1, hl1⟩ := rep_arg (TS := [9, 3, 30, 23, 22, 25, 26, 27, 190, 28, 4]) (by kernel_rfl) (t := 3) (by decide) h1
  rw [one_of (hval 1 3 v1 rfl rfl) (by kernel_rfl)] at hr1
  obtain ⟨a1, rfl, _⟩ := Lv.int Tryz.underlying3 (hl1)
  have hv1 := rep_int.1 (repF_one.1 hr1); obtain rfl : v1 = _ := List.singleton_inj.1 hv1
  obtain ⟨n2, l2, hr2, hl2⟩ := rep_arg (TS := [9, 3, 30, 23, 22, 25, 26, 27, 190, 28, 4]) (by kernel_rfl) (t := 30) (by decide) h2
  obtain ⟨a2, ha2⟩ := dec_30 n2 l2 hl2; obtain ⟨cs2, rfl⟩ : ∃ cs, v2 = .agg ⟨cs⟩ := agg_of (hval 2 30 v2 rfl rfl) (by kernel_rfl)
  have hR2 : Rep (hG W) a2.d cs2 := by rw [← ha2]; exact rep_st.2 hr2
  obtain ⟨k, hk⟩ := hlaw a0 a1 a2
  refine (@law22_AuditNil.ok k a0 a1 a2 true hk W (hG W) _ (Inv.start (inG_hG W))  hR2).mono ?_
  rintro e W' ⟨v, G', L', rfl, hI, _, rfl⟩
  exact ⟨_, rfl, post_law (by kernel_rfl) (by rw [Tryz.params5]; intro t ht; simp only [Array.toList] at ht; revert t; decide +kernel) rfl rfl Tryz.underlying4 hW' hI.below rfl⟩
theorem law22_AuditNil.fact0 : Tryz.prog.inPlace 5 = Rows.auditNilRow.inPlace := by kernel_rfl
theorem law22_AuditNil.fact1 : Tryz.prog.unfollowed 5 = Rows.auditNilRow.unfollowed := by kernel_rfl
theorem law22_AuditNil.fact2 : Tryz.prog.recurses 5 = Rows.auditNilRow.recurses := by kernel_rfl
theorem law22_AuditNil.fact3 : Tryz.prog.varsNamed 5 = Rows.auditNilRow.named := by kernel_rfl
theorem law22_AuditNil.fact4 : Tryz.prog.liftsFinal = Rows.auditNilRow.lifted := by kernel_rfl
theorem law22_AuditNil.fact5 : Tryz.prog.stopsHeard = true := by kernel_rfl
theorem law22_AuditNil.fact6 : Tryz.prog.mayEnter = true := by kernel_rfl
theorem law22_AuditNil.joined : joinedFacts Tryz.prog 5 Tryz.f5 Rows.auditNilSpec Rows.auditNilRow = true := by
  unfold joinedFacts
  rw [law22_AuditNil.fact0, law22_AuditNil.fact1, law22_AuditNil.fact2, law22_AuditNil.fact3, law22_AuditNil.fact4, law22_AuditNil.fact5, law22_AuditNil.fact6]
  kernel_rfl
theorem law22_AuditNil.row (hlaw : ∀ (a0 : ByteArray) (a1 : Int) (a2 : TPlan), ∃ k, law22_AuditNil k a0 a1 a2 = some true) : Rows.AuditNilSaid :=
  OpenClaim.holds_of_wide 5 Tryz.f5 rfl rfl rfl rfl rfl rfl rfl ⟨rfl, rfl, rfl, rfl, rfl⟩ rfl rfl rfl rfl rfl (by kernel_rfl) Tryz.func5 law22_AuditNil.joined
    (of_decide_eq_true (by kernel_rfl)) (by unfold Func.isWrapper; first | (rw [if_pos (by decide +kernel)]; kernel_rfl) | (rw [if_neg (by decide +kernel)]; exact ⟨rfl, rfl⟩))
    (fun os started H enc _ => law22_AuditNil.lifted hlaw os started H enc)
end Go.Proofs.YtlokemkpgnngjaaGreatDoor
