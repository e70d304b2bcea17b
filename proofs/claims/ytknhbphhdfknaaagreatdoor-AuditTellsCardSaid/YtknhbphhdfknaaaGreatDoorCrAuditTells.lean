/- The row: the law holds as it is stated, if its plain function answers true whatever the input. Written by rows.py. -/
import Derived.Test.YtknhbphhdfknaaaGreatDoorRows
import Derived.Test.YtknhbphhdfknaaaGreatDoorCxR
import Derived.Test.YtknhbphhdfknaaaGreatDoorCgT12
import Derived.WalkKit
import Derived.ProofKit
import Derived.OpenShut
import Derived.LaidMore
import Derived.Stop.Joined
import Derived.Lay
set_option linter.unusedVariables false
set_option linter.unusedSimpArgs false
set_option maxRecDepth 100000
namespace Go.Proofs.YtknhbphhdfknaaaGreatDoor
open Go.ChangeShapes Go.WideShapes Go.ChangeAt Go.RowKit
theorem ownknob : ownKnob Tryz.prog.godebug = none := by kernel_rfl
theorem dec_94 : ∀ (n : Nat) (l : List D), Lv Tryz.prog n 94 l → ∃ x : TPair, D.st l = x.d := by
  intro n0 l h
  obtain ⟨n, hn, ps, rfl, hl, hf⟩ := Lv.struct (ts := [9, 9]) Tryz.underlying94 rfl h
  match ps, hl with
  | [l0, l1], _ =>
    obtain ⟨x0, rfl, _⟩ := Lv.str Tryz.underlying9 (hf 0 9 l0 rfl rfl)
    obtain ⟨x1, rfl, _⟩ := Lv.str Tryz.underlying9 (hf 1 9 l1 rfl rfl)
    exact ⟨TPair.mk x0 x1, by simp [TPair.d]⟩
theorem decs_74 (n : Nat) : (∀ l, Lv Tryz.prog n 74 l → ∃ x : TQuery, D.st l = x.d) ∧ (∀ l, Lv Tryz.prog n 145 l → ∃ x : TExpr, D.st l = x.d) ∧ (∀ l, Lv Tryz.prog n 218 l → ∃ x : TItem, D.st l = x.d) ∧ (∀ l, Lv Tryz.prog n 220 l → ∃ x : TFrom, D.st l = x.d) ∧ (∀ l, Lv Tryz.prog n 224 l → ∃ x : TKey, D.st l = x.d) := by
  induction n using Nat.strongRecOn with
  | _ n0 ih =>
    have ih_74 : ∀ m, m < n0 → ∀ l, Lv Tryz.prog m 74 l → ∃ x : TQuery, D.st l = x.d := fun m hm => (ih m hm).1
    have ih_145 : ∀ m, m < n0 → ∀ l, Lv Tryz.prog m 145 l → ∃ x : TExpr, D.st l = x.d := fun m hm => (ih m hm).2.1
    have ih_218 : ∀ m, m < n0 → ∀ l, Lv Tryz.prog m 218 l → ∃ x : TItem, D.st l = x.d := fun m hm => (ih m hm).2.2.1
    have ih_220 : ∀ m, m < n0 → ∀ l, Lv Tryz.prog m 220 l → ∃ x : TFrom, D.st l = x.d := fun m hm => (ih m hm).2.2.2.1
    have ih_224 : ∀ m, m < n0 → ∀ l, Lv Tryz.prog m 224 l → ∃ x : TKey, D.st l = x.d := fun m hm => (ih m hm).2.2.2.2
    refine ⟨?_, ?_, ?_, ?_, ?_⟩
    · intro l h
      obtain ⟨n, hn, ps, rfl, hl, hf⟩ := Lv.struct (ts := [3, 4, 69, 70, 41, 41, 41, 71, 3, 72]) Tryz.underlying74 rfl h
      match ps, hl with
      | [l0, l1, l2, l3, l4, l5, l6, l7, l8, l9], _ =>
        obtain ⟨x0, rfl, _⟩ := Lv.int Tryz.underlying3 (hf 0 3 l0 rfl rfl)
        obtain ⟨x1, rfl⟩ := Lv.bool Tryz.underlying4 (hf 1 4 l1 rfl rfl)
        obtain ⟨x2, rfl⟩ := Lv.slice (sz := 7) (g := TItem.d) Tryz.underlying69 (by kernel_rfl) (fun m l hm h => by obtain ⟨x, hx⟩ := (ih_218 m (by omega) l h); exact ⟨x, (elD_agg (by kernel_rfl)).trans hx⟩) (hf 2 69 l2 rfl rfl)
        obtain ⟨x3, rfl⟩ := Lv.slice (sz := 7) (g := TFrom.d) Tryz.underlying70 (by kernel_rfl) (fun m l hm h => by obtain ⟨x, hx⟩ := (ih_220 m (by omega) l h); exact ⟨x, (elD_agg (by kernel_rfl)).trans hx⟩) (hf 3 70 l3 rfl rfl)
        obtain ⟨x4, rfl⟩ := Lv.slice (sz := 6) (g := TExpr.d) Tryz.underlying41 (by kernel_rfl) (fun m l hm h => by obtain ⟨x, hx⟩ := (ih_145 m (by omega) l h); exact ⟨x, (elD_agg (by kernel_rfl)).trans hx⟩) (hf 4 41 l4 rfl rfl)
        obtain ⟨x5, rfl⟩ := Lv.slice (sz := 6) (g := TExpr.d) Tryz.underlying41 (by kernel_rfl) (fun m l hm h => by obtain ⟨x, hx⟩ := (ih_145 m (by omega) l h); exact ⟨x, (elD_agg (by kernel_rfl)).trans hx⟩) (hf 5 41 l5 rfl rfl)
        obtain ⟨x6, rfl⟩ := Lv.slice (sz := 6) (g := TExpr.d) Tryz.underlying41 (by kernel_rfl) (fun m l hm h => by obtain ⟨x, hx⟩ := (ih_145 m (by omega) l h); exact ⟨x, (elD_agg (by kernel_rfl)).trans hx⟩) (hf 6 41 l6 rfl rfl)
        obtain ⟨x7, rfl⟩ := Lv.slice (sz := 7) (g := TKey.d) Tryz.underlying71 (by kernel_rfl) (fun m l hm h => by obtain ⟨x, hx⟩ := (ih_224 m (by omega) l h); exact ⟨x, (elD_agg (by kernel_rfl)).trans hx⟩) (hf 7 71 l7 rfl rfl)
        obtain ⟨x8, rfl, _⟩ := Lv.int Tryz.underlying3 (hf 8 3 l8 rfl rfl)
        obtain ⟨x9, rfl⟩ := Lv.slice (sz := 10) (g := TQuery.d) Tryz.underlying72 (by kernel_rfl) (fun m l hm h => by obtain ⟨x, hx⟩ := (ih_74 m (by omega) l h); exact ⟨x, (elD_agg (by kernel_rfl)).trans hx⟩) (hf 9 72 l9 rfl rfl)
        exact ⟨TQuery.mk x0 x1 x2 x3 x4 x5 x6 x7 x8 x9, by simp [TQuery.d, TQuery.ds_eq, TExpr.ds_eq, TItem.ds_eq, TFrom.ds_eq, TKey.ds_eq]⟩
    · intro l h
      obtain ⟨n, hn, ps, rfl, hl, hf⟩ := Lv.struct (ts := [3, 3, 9, 9, 41, 72]) Tryz.underlying145 rfl h
      match ps, hl with
      | [l0, l1, l2, l3, l4, l5], _ =>
        obtain ⟨x0, rfl, _⟩ := Lv.int Tryz.underlying3 (hf 0 3 l0 rfl rfl)
        obtain ⟨x1, rfl, _⟩ := Lv.int Tryz.underlying3 (hf 1 3 l1 rfl rfl)
        obtain ⟨x2, rfl, _⟩ := Lv.str Tryz.underlying9 (hf 2 9 l2 rfl rfl)
        obtain ⟨x3, rfl, _⟩ := Lv.str Tryz.underlying9 (hf 3 9 l3 rfl rfl)
        obtain ⟨x4, rfl⟩ := Lv.slice (sz := 6) (g := TExpr.d) Tryz.underlying41 (by kernel_rfl) (fun m l hm h => by obtain ⟨x, hx⟩ := (ih_145 m (by omega) l h); exact ⟨x, (elD_agg (by kernel_rfl)).trans hx⟩) (hf 4 41 l4 rfl rfl)
        obtain ⟨x5, rfl⟩ := Lv.slice (sz := 10) (g := TQuery.d) Tryz.underlying72 (by kernel_rfl) (fun m l hm h => by obtain ⟨x, hx⟩ := (ih_74 m (by omega) l h); exact ⟨x, (elD_agg (by kernel_rfl)).trans hx⟩) (hf 5 72 l5 rfl rfl)
        exact ⟨TExpr.mk x0 x1 x2 x3 x4 x5, by simp [TExpr.d, TQuery.ds_eq, TExpr.ds_eq, TItem.ds_eq, TFrom.ds_eq, TKey.ds_eq]⟩
    · intro l h
      obtain ⟨n, hn, ps, rfl, hl, hf⟩ := Lv.struct (ts := [145, 9]) Tryz.underlying218 rfl h
      match ps, hl with
      | [l0, l1], _ =>
        obtain ⟨⟨x0_0, x0_1, x0_2, x0_3, x0_4, x0_5⟩, hx0⟩ := ih_145 n (by omega) l0 (hf 0 145 l0 rfl rfl)
        simp only [TExpr.d, D.st.injEq] at hx0; subst hx0
        obtain ⟨x1, rfl, _⟩ := Lv.str Tryz.underlying9 (hf 1 9 l1 rfl rfl)
        exact ⟨TItem.mk (TExpr.mk x0_0 x0_1 x0_2 x0_3 x0_4 x0_5) x1, by simp [TItem.d, TQuery.ds_eq, TExpr.ds_eq, TItem.ds_eq, TFrom.ds_eq, TKey.ds_eq]⟩
    · intro l h
      obtain ⟨n, hn, ps, rfl, hl, hf⟩ := Lv.struct (ts := [3, 9, 4, 9, 72, 70, 41]) Tryz.underlying220 rfl h
      match ps, hl with
      | [l0, l1, l2, l3, l4, l5, l6], _ =>
        obtain ⟨x0, rfl, _⟩ := Lv.int Tryz.underlying3 (hf 0 3 l0 rfl rfl)
        obtain ⟨x1, rfl, _⟩ := Lv.str Tryz.underlying9 (hf 1 9 l1 rfl rfl)
        obtain ⟨x2, rfl⟩ := Lv.bool Tryz.underlying4 (hf 2 4 l2 rfl rfl)
        obtain ⟨x3, rfl, _⟩ := Lv.str Tryz.underlying9 (hf 3 9 l3 rfl rfl)
        obtain ⟨x4, rfl⟩ := Lv.slice (sz := 10) (g := TQuery.d) Tryz.underlying72 (by kernel_rfl) (fun m l hm h => by obtain ⟨x, hx⟩ := (ih_74 m (by omega) l h); exact ⟨x, (elD_agg (by kernel_rfl)).trans hx⟩) (hf 4 72 l4 rfl rfl)
        obtain ⟨x5, rfl⟩ := Lv.slice (sz := 7) (g := TFrom.d) Tryz.underlying70 (by kernel_rfl) (fun m l hm h => by obtain ⟨x, hx⟩ := (ih_220 m (by omega) l h); exact ⟨x, (elD_agg (by kernel_rfl)).trans hx⟩) (hf 5 70 l5 rfl rfl)
        obtain ⟨x6, rfl⟩ := Lv.slice (sz := 6) (g := TExpr.d) Tryz.underlying41 (by kernel_rfl) (fun m l hm h => by obtain ⟨x, hx⟩ := (ih_145 m (by omega) l h); exact ⟨x, (elD_agg (by kernel_rfl)).trans hx⟩) (hf 6 41 l6 rfl rfl)
        exact ⟨TFrom.mk x0 x1 x2 x3 x4 x5 x6, by simp [TFrom.d, TQuery.ds_eq, TExpr.ds_eq, TItem.ds_eq, TFrom.ds_eq, TKey.ds_eq]⟩
    · intro l h
      obtain ⟨n, hn, ps, rfl, hl, hf⟩ := Lv.struct (ts := [145, 4]) Tryz.underlying224 rfl h
      match ps, hl with
      | [l0, l1], _ =>
        obtain ⟨⟨x0_0, x0_1, x0_2, x0_3, x0_4, x0_5⟩, hx0⟩ := ih_145 n (by omega) l0 (hf 0 145 l0 rfl rfl)
        simp only [TExpr.d, D.st.injEq] at hx0; subst hx0
        obtain ⟨x1, rfl⟩ := Lv.bool Tryz.underlying4 (hf 1 4 l1 rfl rfl)
        exact ⟨TKey.mk (TExpr.mk x0_0 x0_1 x0_2 x0_3 x0_4 x0_5) x1, by simp [TKey.d, TQuery.ds_eq, TExpr.ds_eq, TItem.ds_eq, TFrom.ds_eq, TKey.ds_eq]⟩
theorem dec_74 : ∀ (n : Nat) (l : List D), Lv Tryz.prog n 74 l → ∃ x : TQuery, D.st l = x.d := fun n => (decs_74 n).1
theorem dec_145 : ∀ (n : Nat) (l : List D), Lv Tryz.prog n 145 l → ∃ x : TExpr, D.st l = x.d := fun n => (decs_74 n).2.1
theorem dec_218 : ∀ (n : Nat) (l : List D), Lv Tryz.prog n 218 l → ∃ x : TItem, D.st l = x.d := fun n => (decs_74 n).2.2.1
theorem dec_220 : ∀ (n : Nat) (l : List D), Lv Tryz.prog n 220 l → ∃ x : TFrom, D.st l = x.d := fun n => (decs_74 n).2.2.2.1
theorem dec_224 : ∀ (n : Nat) (l : List D), Lv Tryz.prog n 224 l → ∃ x : TKey, D.st l = x.d := fun n => (decs_74 n).2.2.2.2
theorem dec_165 : ∀ (n : Nat) (l : List D), Lv Tryz.prog n 165 l → ∃ x : TCol, D.st l = x.d := by
  intro n0 l h
  obtain ⟨n, hn, ps, rfl, hl, hf⟩ := Lv.struct (ts := [9, 3, 4, 9]) Tryz.underlying165 rfl h
  match ps, hl with
  | [l0, l1, l2, l3], _ =>
    obtain ⟨x0, rfl, _⟩ := Lv.str Tryz.underlying9 (hf 0 9 l0 rfl rfl)
    obtain ⟨x1, rfl, _⟩ := Lv.int Tryz.underlying3 (hf 1 3 l1 rfl rfl)
    obtain ⟨x2, rfl⟩ := Lv.bool Tryz.underlying4 (hf 2 4 l2 rfl rfl)
    obtain ⟨x3, rfl, _⟩ := Lv.str Tryz.underlying9 (hf 3 9 l3 rfl rfl)
    exact ⟨TCol.mk x0 x1 x2 x3, by simp [TCol.d]⟩
theorem dec_114 : ∀ (n : Nat) (l : List D), Lv Tryz.prog n 114 l → ∃ x : TTable, D.st l = x.d := by
  intro n0 l h
  obtain ⟨n, hn, ps, rfl, hl, hf⟩ := Lv.struct (ts := [9, 9, 112, 22, 9, 41]) Tryz.underlying114 rfl h
  match ps, hl with
  | [l0, l1, l2, l3, l4, l5], _ =>
    obtain ⟨x0, rfl, _⟩ := Lv.str Tryz.underlying9 (hf 0 9 l0 rfl rfl)
    obtain ⟨x1, rfl, _⟩ := Lv.str Tryz.underlying9 (hf 1 9 l1 rfl rfl)
    obtain ⟨x2, rfl⟩ := Lv.slice (sz := 4) (g := TCol.d) Tryz.underlying112 (by kernel_rfl) (fun m l hm h => by obtain ⟨x, hx⟩ := (dec_165 m l h); exact ⟨x, (elD_agg (by kernel_rfl)).trans hx⟩) (hf 2 112 l2 rfl rfl)
    obtain ⟨x3, rfl⟩ := Lv.slice (sz := 1) (g := D.str) Tryz.underlying22 (by kernel_rfl) (fun m l hm h => by obtain ⟨x, rfl, _⟩ := Lv.str Tryz.underlying9 h; exact ⟨x, elD_one (by kernel_rfl)⟩) (hf 3 22 l3 rfl rfl)
    obtain ⟨x4, rfl, _⟩ := Lv.str Tryz.underlying9 (hf 4 9 l4 rfl rfl)
    obtain ⟨x5, rfl⟩ := Lv.slice (sz := 6) (g := TExpr.d) Tryz.underlying41 (by kernel_rfl) (fun m l hm h => by obtain ⟨x, hx⟩ := (dec_145 m l h); exact ⟨x, (elD_agg (by kernel_rfl)).trans hx⟩) (hf 5 41 l5 rfl rfl)
    exact ⟨TTable.mk x0 x1 x2 x3 x4 x5, by simp [TTable.d]⟩
theorem dec_26 : ∀ (n : Nat) (l : List D), Lv Tryz.prog n 26 l → ∃ x : TSchema, D.st l = x.d := by
  intro n0 l h
  obtain ⟨n, hn, ps, rfl, hl, hf⟩ := Lv.struct (ts := [22, 23, 24, 23, 23, 3]) Tryz.underlying26 rfl h
  match ps, hl with
  | [l0, l1, l2, l3, l4, l5], _ =>
    obtain ⟨x0, rfl⟩ := Lv.slice (sz := 1) (g := D.str) Tryz.underlying22 (by kernel_rfl) (fun m l hm h => by obtain ⟨x, rfl, _⟩ := Lv.str Tryz.underlying9 h; exact ⟨x, elD_one (by kernel_rfl)⟩) (hf 0 22 l0 rfl rfl)
    obtain ⟨x1, rfl⟩ := Lv.slice (sz := 2) (g := TPair.d) Tryz.underlying23 (by kernel_rfl) (fun m l hm h => by obtain ⟨x, hx⟩ := (dec_94 m l h); exact ⟨x, (elD_agg (by kernel_rfl)).trans hx⟩) (hf 1 23 l1 rfl rfl)
    obtain ⟨x2, rfl⟩ := Lv.slice (sz := 6) (g := TTable.d) Tryz.underlying24 (by kernel_rfl) (fun m l hm h => by obtain ⟨x, hx⟩ := (dec_114 m l h); exact ⟨x, (elD_agg (by kernel_rfl)).trans hx⟩) (hf 2 24 l2 rfl rfl)
    obtain ⟨x3, rfl⟩ := Lv.slice (sz := 2) (g := TPair.d) Tryz.underlying23 (by kernel_rfl) (fun m l hm h => by obtain ⟨x, hx⟩ := (dec_94 m l h); exact ⟨x, (elD_agg (by kernel_rfl)).trans hx⟩) (hf 3 23 l3 rfl rfl)
    obtain ⟨x4, rfl⟩ := Lv.slice (sz := 2) (g := TPair.d) Tryz.underlying23 (by kernel_rfl) (fun m l hm h => by obtain ⟨x, hx⟩ := (dec_94 m l h); exact ⟨x, (elD_agg (by kernel_rfl)).trans hx⟩) (hf 4 23 l4 rfl rfl)
    obtain ⟨x5, rfl, _⟩ := Lv.int Tryz.underlying3 (hf 5 3 l5 rfl rfl)
    exact ⟨TSchema.mk x0 x1 x2 x3 x4 x5, by simp [TSchema.d]⟩
set_option maxRecDepth 100000 in
theorem law22_AuditTells.lifted (hlaw : ∀ (a0 : TSchema) (a1 : ByteArray) (a2 : Int), ∃ k, law22_AuditTells k a0 a1 a2 = some true) (os : Os) (started : os.Started) (H : Type) (enc : TypeId × Value → H) :
    ReturnsInHanded {} Tryz.checked os 4 .any (fun w args => (Rows.auditTellsSpec.pre enc Tryz.prog Tryz.f4 [] false w args ∧ laidMetH Tryz.prog [("math/bits.deBruijn32tab", Rows.laid_math_bits_deBruijn32tab), ("math/bits.deBruijn64tab", Rows.laid_math_bits_deBruijn64tab), ("internal/strconv.uint64pow10", Rows.laid_internal_strconv_uint64pow10), ("unicode/utf8.acceptRanges", Rows.laid_unicode_utf8_acceptRanges), ("unicode/utf8.first", Rows.laid_unicode_utf8_first)] w) ∧ sizedMet enc Tryz.prog Tryz.f4 (OpenSpec.ofChange Rows.auditTellsSpec) false w args) (Rows.auditTellsSpec.post enc Tryz.prog Tryz.f4 false true false false) := by
  refine returnsInHanded_of_change_and (C := Tryz.checked) (X := fun w _ => laidMetH Tryz.prog [("math/bits.deBruijn32tab", Rows.laid_math_bits_deBruijn32tab), ("math/bits.deBruijn64tab", Rows.laid_math_bits_deBruijn64tab), ("internal/strconv.uint64pow10", Rows.laid_internal_strconv_uint64pow10), ("unicode/utf8.acceptRanges", Rows.laid_unicode_utf8_acceptRanges), ("unicode/utf8.first", Rows.laid_unicode_utf8_first)] w) (fun _ _ _ hh h => h.of_heap hh) ownknob started (by kernel_rfl) Tryz.func4 (ChangeSpec.witness_shaped (enc := enc) (C := Tryz.checked) (os := os) (X := fun w _ => laidMetH Tryz.prog [("math/bits.deBruijn32tab", Rows.laid_math_bits_deBruijn32tab), ("math/bits.deBruijn64tab", Rows.laid_math_bits_deBruijn64tab), ("internal/strconv.uint64pow10", Rows.laid_internal_strconv_uint64pow10), ("unicode/utf8.acceptRanges", Rows.laid_unicode_utf8_acceptRanges), ("unicode/utf8.first", Rows.laid_unicode_utf8_first)] w) false (World.laidAll Tryz.prog os [("math/bits.deBruijn32tab", Rows.laid_math_bits_deBruijn32tab), ("math/bits.deBruijn64tab", Rows.laid_math_bits_deBruijn64tab), ("internal/strconv.uint64pow10", Rows.laid_internal_strconv_uint64pow10), ("unicode/utf8.acceptRanges", Rows.laid_unicode_utf8_acceptRanges), ("unicode/utf8.first", Rows.laid_unicode_utf8_first)]) #[.agg #[.slice none 0 0, .slice none 0 0, .slice none 0 0, .slice none 0 0, .slice none 0 0, .int .i64 0], .string ⟨#[]⟩, .int .i64 0] 8 (World.laidAll_os _ _ _) (World.shaped_of_ZipB (by kernel_rfl) (by kernel_rfl)) (by kernel_rfl) (by kernel_rfl) (by kernel_rfl) (by rw [MakeChecks.laidMetH_plain _ _ _ (by kernel_rfl)]; exact laidMet_laidAll _ (by kernel_rfl) (by kernel_rfl))) ?_
  intro W base args ds gs before hval0 hW _ _ hLaid _

  have hval : ∀ (j : Nat) t v, Tryz.f4.params[j]? = some t → args[j]? = some v → Value.okWide Tryz.prog W .any base t v := hval0
  have hW' := hW
  obtain ⟨p, q, hA0, hV, rfl, hfz, hnd⟩ := hW
  have hA : DataW.TrodAll enc Tryz.prog W 0 (fun _ => true) true Tryz.f4.params.toList args.toList ds p := hA0
  rw [Tryz.params4] at hA hval
  obtain ⟨v0, vs0, d0, ds0, p0, q0, hargs, rfl, rfl, h0, r0⟩ := trodAll_cons hA
  obtain ⟨v1, vs1, d1, ds1, p1, q1, rfl, rfl, rfl, h1, r1⟩ := trodAll_cons r0
  obtain ⟨v2, vs2, d2, ds2, p2, q2, rfl, rfl, rfl, h2, r2⟩ := trodAll_cons r1
  obtain ⟨rfl, rfl, rfl⟩ := trodAll_nil r2
  obtain rfl : args = #[v0, v1, v2] := by cases args; simp_all
  obtain ⟨rfl, rfl⟩ := trodVars_none hV
  obtain ⟨n0, l0, hr0, hl0⟩ := rep_arg (TS := [26, 22, 9, 23, 94, 24, 114, 112, 165, 3, 4, 41, 145, 72, 74, 69, 218, 70, 220, 71, 224]) (by kernel_rfl) (t := 26) (by decide) h0
  obtain ⟨a0, ha0⟩ := dec_26 n0 l0 hl0; obtain ⟨cs0, rfl⟩ : ∃ cs, v0 = .agg ⟨cs⟩ := agg_of (hval 0 26 v0 rfl rfl) (by kernel_rfl)
  have hR0 : Rep (hG W) a0.d cs0 := by rw [← ha0]; exact rep_st.2 hr0
  obtain ⟨n1, l1, hr1, hl1⟩ := rep_arg (TS := [26, 22, 9, 23, 94, 24, 114, 112, 165, 3, 4, 41, 145, 72, 74, 69, 218, 70, 220, 71, 224]) (by kernel_rfl) (t := 9) (by decide) h1
  rw [one_of (hval 1 9 v1 rfl rfl) (by kernel_rfl)] at hr1
  obtain ⟨a1, rfl, _⟩ := Lv.str Tryz.underlying9 (hl1)
  have hv1 := rep_str.1 (repF_one.1 hr1); obtain rfl : v1 = _ := List.singleton_inj.1 hv1
  obtain ⟨n2, l2, hr2, hl2⟩ := rep_arg (TS := [26, 22, 9, 23, 94, 24, 114, 112, 165, 3, 4, 41, 145, 72, 74, 69, 218, 70, 220, 71, 224]) (by kernel_rfl) (t := 3) (by decide) h2
  rw [one_of (hval 2 3 v2 rfl rfl) (by kernel_rfl)] at hr2
  obtain ⟨a2, rfl, _⟩ := Lv.int Tryz.underlying3 (hl2)
  have hv2 := rep_int.1 (repF_one.1 hr2); obtain rfl : v2 = _ := List.singleton_inj.1 hv2
  obtain ⟨k, hk⟩ := hlaw a0 a1 a2
  refine (@law22_AuditTells.ok k a0 a1 a2 true hk W (hG W) _ (Inv.start (inG_hG W))  hR0).mono ?_
  rintro e W' ⟨v, G', L', rfl, hI, _, rfl⟩
  exact ⟨_, rfl, post_law (by kernel_rfl) (by rw [Tryz.params4]; intro t ht; simp only [Array.toList] at ht; revert t; decide +kernel) rfl rfl Tryz.underlying4 hW' hI.below rfl⟩
theorem law22_AuditTells.fact0 : Tryz.prog.inPlace 4 = Rows.auditTellsRow.inPlace := by kernel_rfl
theorem law22_AuditTells.fact1 : Tryz.prog.unfollowed 4 = Rows.auditTellsRow.unfollowed := by kernel_rfl
theorem law22_AuditTells.fact2 : Tryz.prog.recurses 4 = Rows.auditTellsRow.recurses := by kernel_rfl
theorem law22_AuditTells.fact3 : Tryz.prog.varsNamed 4 = Rows.auditTellsRow.named := by kernel_rfl
theorem law22_AuditTells.fact4 : Tryz.prog.liftsFinal = Rows.auditTellsRow.lifted := by kernel_rfl
theorem law22_AuditTells.fact5 : Tryz.prog.stopsHeard = true := by kernel_rfl
theorem law22_AuditTells.fact6 : Tryz.prog.mayEnter = true := by kernel_rfl
theorem law22_AuditTells.joined : joinedFacts Tryz.prog 4 Tryz.f4 Rows.auditTellsSpec Rows.auditTellsRow = true := by
  unfold joinedFacts
  rw [law22_AuditTells.fact0, law22_AuditTells.fact1, law22_AuditTells.fact2, law22_AuditTells.fact3, law22_AuditTells.fact4, law22_AuditTells.fact5, law22_AuditTells.fact6]
  kernel_rfl
theorem law22_AuditTells.row (hlaw : ∀ (a0 : TSchema) (a1 : ByteArray) (a2 : Int), ∃ k, law22_AuditTells k a0 a1 a2 = some true) : Rows.AuditTellsSaid :=
  OpenClaim.holds_of_wide 4 Tryz.f4 rfl rfl rfl rfl rfl rfl rfl ⟨rfl, rfl, rfl, rfl, rfl⟩ rfl rfl rfl rfl rfl (by kernel_rfl) Tryz.func4 law22_AuditTells.joined
    (of_decide_eq_true (by kernel_rfl)) (by unfold Func.isWrapper; first | (rw [if_pos (by decide +kernel)]; kernel_rfl) | (rw [if_neg (by decide +kernel)]; exact ⟨rfl, rfl⟩))
    (fun os started H enc _ => law22_AuditTells.lifted hlaw os started H enc)
end Go.Proofs.YtknhbphhdfknaaaGreatDoor
