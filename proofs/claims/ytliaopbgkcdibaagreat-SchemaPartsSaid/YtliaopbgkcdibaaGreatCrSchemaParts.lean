/- The row: the law holds as it is stated, if its plain function answers true whatever the input. Written by rows.py. -/
import Derived.Test.YtliaopbgkcdibaaGreatRows
import Derived.Test.YtliaopbgkcdibaaGreatCxR
import Derived.Test.YtliaopbgkcdibaaGreatCgP15
import Derived.WalkKit
import Derived.ProofKit
import Derived.OpenShut
set_option linter.unusedVariables false
set_option linter.unusedSimpArgs false
set_option maxRecDepth 100000
namespace Go.Proofs.YtliaopbgkcdibaaGreat
open Go.ChangeShapes Go.WideShapes Go.ChangeAt Go.RowKit
theorem ownknob : ownKnob Tryz.prog.godebug = none := by kernel_rfl
theorem dec_34 : ∀ (n : Nat) (l : List D), Lv Tryz.prog n 34 l → ∃ x : TPair, D.st l = x.d := by
  intro n0 l h
  obtain ⟨n, hn, ps, rfl, hl, hf⟩ := Lv.struct (ts := [9, 9]) Tryz.underlying34 rfl h
  match ps, hl with
  | [l0, l1], _ =>
    obtain ⟨x0, rfl, _⟩ := Lv.str Tryz.underlying9 (hf 0 9 l0 rfl rfl)
    obtain ⟨x1, rfl, _⟩ := Lv.str Tryz.underlying9 (hf 1 9 l1 rfl rfl)
    exact ⟨TPair.mk x0 x1, by simp [TPair.d]⟩
theorem decs_75 (n : Nat) : (∀ l, Lv Tryz.prog n 75 l → ∃ x : TExpr, D.st l = x.d) ∧ (∀ l, Lv Tryz.prog n 127 l → ∃ x : TQuery, D.st l = x.d) ∧ (∀ l, Lv Tryz.prog n 143 l → ∃ x : TItem, D.st l = x.d) ∧ (∀ l, Lv Tryz.prog n 145 l → ∃ x : TKey, D.st l = x.d) ∧ (∀ l, Lv Tryz.prog n 148 l → ∃ x : TFrom, D.st l = x.d) := by
  induction n using Nat.strongRecOn with
  | _ n0 ih =>
    have ih_75 : ∀ m, m < n0 → ∀ l, Lv Tryz.prog m 75 l → ∃ x : TExpr, D.st l = x.d := fun m hm => (ih m hm).1
    have ih_127 : ∀ m, m < n0 → ∀ l, Lv Tryz.prog m 127 l → ∃ x : TQuery, D.st l = x.d := fun m hm => (ih m hm).2.1
    have ih_143 : ∀ m, m < n0 → ∀ l, Lv Tryz.prog m 143 l → ∃ x : TItem, D.st l = x.d := fun m hm => (ih m hm).2.2.1
    have ih_145 : ∀ m, m < n0 → ∀ l, Lv Tryz.prog m 145 l → ∃ x : TKey, D.st l = x.d := fun m hm => (ih m hm).2.2.2.1
    have ih_148 : ∀ m, m < n0 → ∀ l, Lv Tryz.prog m 148 l → ∃ x : TFrom, D.st l = x.d := fun m hm => (ih m hm).2.2.2.2
    refine ⟨?_, ?_, ?_, ?_, ?_⟩
    · intro l h
      obtain ⟨n, hn, ps, rfl, hl, hf⟩ := Lv.struct (ts := [3, 3, 9, 9, 49, 73]) Tryz.underlying75 rfl h
      match ps, hl with
      | [l0, l1, l2, l3, l4, l5], _ =>
        obtain ⟨x0, rfl, _⟩ := Lv.int Tryz.underlying3 (hf 0 3 l0 rfl rfl)
        obtain ⟨x1, rfl, _⟩ := Lv.int Tryz.underlying3 (hf 1 3 l1 rfl rfl)
        obtain ⟨x2, rfl, _⟩ := Lv.str Tryz.underlying9 (hf 2 9 l2 rfl rfl)
        obtain ⟨x3, rfl, _⟩ := Lv.str Tryz.underlying9 (hf 3 9 l3 rfl rfl)
        obtain ⟨x4, rfl⟩ := Lv.slice (sz := 6) (g := TExpr.d) Tryz.underlying49 (by kernel_rfl) (fun m l hm h => by obtain ⟨x, hx⟩ := (ih_75 m (by omega) l h); exact ⟨x, (elD_agg (by kernel_rfl)).trans hx⟩) (hf 4 49 l4 rfl rfl)
        obtain ⟨x5, rfl⟩ := Lv.slice (sz := 10) (g := TQuery.d) Tryz.underlying73 (by kernel_rfl) (fun m l hm h => by obtain ⟨x, hx⟩ := (ih_127 m (by omega) l h); exact ⟨x, (elD_agg (by kernel_rfl)).trans hx⟩) (hf 5 73 l5 rfl rfl)
        exact ⟨TExpr.mk x0 x1 x2 x3 x4 x5, by simp [TExpr.d, TExpr.ds_eq, TQuery.ds_eq, TItem.ds_eq, TKey.ds_eq, TFrom.ds_eq]⟩
    · intro l h
      obtain ⟨n, hn, ps, rfl, hl, hf⟩ := Lv.struct (ts := [3, 4, 123, 124, 49, 49, 49, 125, 3, 73]) Tryz.underlying127 rfl h
      match ps, hl with
      | [l0, l1, l2, l3, l4, l5, l6, l7, l8, l9], _ =>
        obtain ⟨x0, rfl, _⟩ := Lv.int Tryz.underlying3 (hf 0 3 l0 rfl rfl)
        obtain ⟨x1, rfl⟩ := Lv.bool Tryz.underlying4 (hf 1 4 l1 rfl rfl)
        obtain ⟨x2, rfl⟩ := Lv.slice (sz := 7) (g := TItem.d) Tryz.underlying123 (by kernel_rfl) (fun m l hm h => by obtain ⟨x, hx⟩ := (ih_143 m (by omega) l h); exact ⟨x, (elD_agg (by kernel_rfl)).trans hx⟩) (hf 2 123 l2 rfl rfl)
        obtain ⟨x3, rfl⟩ := Lv.slice (sz := 7) (g := TFrom.d) Tryz.underlying124 (by kernel_rfl) (fun m l hm h => by obtain ⟨x, hx⟩ := (ih_148 m (by omega) l h); exact ⟨x, (elD_agg (by kernel_rfl)).trans hx⟩) (hf 3 124 l3 rfl rfl)
        obtain ⟨x4, rfl⟩ := Lv.slice (sz := 6) (g := TExpr.d) Tryz.underlying49 (by kernel_rfl) (fun m l hm h => by obtain ⟨x, hx⟩ := (ih_75 m (by omega) l h); exact ⟨x, (elD_agg (by kernel_rfl)).trans hx⟩) (hf 4 49 l4 rfl rfl)
        obtain ⟨x5, rfl⟩ := Lv.slice (sz := 6) (g := TExpr.d) Tryz.underlying49 (by kernel_rfl) (fun m l hm h => by obtain ⟨x, hx⟩ := (ih_75 m (by omega) l h); exact ⟨x, (elD_agg (by kernel_rfl)).trans hx⟩) (hf 5 49 l5 rfl rfl)
        obtain ⟨x6, rfl⟩ := Lv.slice (sz := 6) (g := TExpr.d) Tryz.underlying49 (by kernel_rfl) (fun m l hm h => by obtain ⟨x, hx⟩ := (ih_75 m (by omega) l h); exact ⟨x, (elD_agg (by kernel_rfl)).trans hx⟩) (hf 6 49 l6 rfl rfl)
        obtain ⟨x7, rfl⟩ := Lv.slice (sz := 7) (g := TKey.d) Tryz.underlying125 (by kernel_rfl) (fun m l hm h => by obtain ⟨x, hx⟩ := (ih_145 m (by omega) l h); exact ⟨x, (elD_agg (by kernel_rfl)).trans hx⟩) (hf 7 125 l7 rfl rfl)
        obtain ⟨x8, rfl, _⟩ := Lv.int Tryz.underlying3 (hf 8 3 l8 rfl rfl)
        obtain ⟨x9, rfl⟩ := Lv.slice (sz := 10) (g := TQuery.d) Tryz.underlying73 (by kernel_rfl) (fun m l hm h => by obtain ⟨x, hx⟩ := (ih_127 m (by omega) l h); exact ⟨x, (elD_agg (by kernel_rfl)).trans hx⟩) (hf 9 73 l9 rfl rfl)
        exact ⟨TQuery.mk x0 x1 x2 x3 x4 x5 x6 x7 x8 x9, by simp [TQuery.d, TExpr.ds_eq, TQuery.ds_eq, TItem.ds_eq, TKey.ds_eq, TFrom.ds_eq]⟩
    · intro l h
      obtain ⟨n, hn, ps, rfl, hl, hf⟩ := Lv.struct (ts := [75, 9]) Tryz.underlying143 rfl h
      match ps, hl with
      | [l0, l1], _ =>
        obtain ⟨⟨x0_0, x0_1, x0_2, x0_3, x0_4, x0_5⟩, hx0⟩ := ih_75 n (by omega) l0 (hf 0 75 l0 rfl rfl)
        simp only [TExpr.d, D.st.injEq] at hx0; subst hx0
        obtain ⟨x1, rfl, _⟩ := Lv.str Tryz.underlying9 (hf 1 9 l1 rfl rfl)
        exact ⟨TItem.mk (TExpr.mk x0_0 x0_1 x0_2 x0_3 x0_4 x0_5) x1, by simp [TItem.d, TExpr.ds_eq, TQuery.ds_eq, TItem.ds_eq, TKey.ds_eq, TFrom.ds_eq]⟩
    · intro l h
      obtain ⟨n, hn, ps, rfl, hl, hf⟩ := Lv.struct (ts := [75, 4]) Tryz.underlying145 rfl h
      match ps, hl with
      | [l0, l1], _ =>
        obtain ⟨⟨x0_0, x0_1, x0_2, x0_3, x0_4, x0_5⟩, hx0⟩ := ih_75 n (by omega) l0 (hf 0 75 l0 rfl rfl)
        simp only [TExpr.d, D.st.injEq] at hx0; subst hx0
        obtain ⟨x1, rfl⟩ := Lv.bool Tryz.underlying4 (hf 1 4 l1 rfl rfl)
        exact ⟨TKey.mk (TExpr.mk x0_0 x0_1 x0_2 x0_3 x0_4 x0_5) x1, by simp [TKey.d, TExpr.ds_eq, TQuery.ds_eq, TItem.ds_eq, TKey.ds_eq, TFrom.ds_eq]⟩
    · intro l h
      obtain ⟨n, hn, ps, rfl, hl, hf⟩ := Lv.struct (ts := [3, 9, 4, 9, 73, 124, 49]) Tryz.underlying148 rfl h
      match ps, hl with
      | [l0, l1, l2, l3, l4, l5, l6], _ =>
        obtain ⟨x0, rfl, _⟩ := Lv.int Tryz.underlying3 (hf 0 3 l0 rfl rfl)
        obtain ⟨x1, rfl, _⟩ := Lv.str Tryz.underlying9 (hf 1 9 l1 rfl rfl)
        obtain ⟨x2, rfl⟩ := Lv.bool Tryz.underlying4 (hf 2 4 l2 rfl rfl)
        obtain ⟨x3, rfl, _⟩ := Lv.str Tryz.underlying9 (hf 3 9 l3 rfl rfl)
        obtain ⟨x4, rfl⟩ := Lv.slice (sz := 10) (g := TQuery.d) Tryz.underlying73 (by kernel_rfl) (fun m l hm h => by obtain ⟨x, hx⟩ := (ih_127 m (by omega) l h); exact ⟨x, (elD_agg (by kernel_rfl)).trans hx⟩) (hf 4 73 l4 rfl rfl)
        obtain ⟨x5, rfl⟩ := Lv.slice (sz := 7) (g := TFrom.d) Tryz.underlying124 (by kernel_rfl) (fun m l hm h => by obtain ⟨x, hx⟩ := (ih_148 m (by omega) l h); exact ⟨x, (elD_agg (by kernel_rfl)).trans hx⟩) (hf 5 124 l5 rfl rfl)
        obtain ⟨x6, rfl⟩ := Lv.slice (sz := 6) (g := TExpr.d) Tryz.underlying49 (by kernel_rfl) (fun m l hm h => by obtain ⟨x, hx⟩ := (ih_75 m (by omega) l h); exact ⟨x, (elD_agg (by kernel_rfl)).trans hx⟩) (hf 6 49 l6 rfl rfl)
        exact ⟨TFrom.mk x0 x1 x2 x3 x4 x5 x6, by simp [TFrom.d, TExpr.ds_eq, TQuery.ds_eq, TItem.ds_eq, TKey.ds_eq, TFrom.ds_eq]⟩
theorem dec_75 : ∀ (n : Nat) (l : List D), Lv Tryz.prog n 75 l → ∃ x : TExpr, D.st l = x.d := fun n => (decs_75 n).1
theorem dec_127 : ∀ (n : Nat) (l : List D), Lv Tryz.prog n 127 l → ∃ x : TQuery, D.st l = x.d := fun n => (decs_75 n).2.1
theorem dec_143 : ∀ (n : Nat) (l : List D), Lv Tryz.prog n 143 l → ∃ x : TItem, D.st l = x.d := fun n => (decs_75 n).2.2.1
theorem dec_145 : ∀ (n : Nat) (l : List D), Lv Tryz.prog n 145 l → ∃ x : TKey, D.st l = x.d := fun n => (decs_75 n).2.2.2.1
theorem dec_148 : ∀ (n : Nat) (l : List D), Lv Tryz.prog n 148 l → ∃ x : TFrom, D.st l = x.d := fun n => (decs_75 n).2.2.2.2
theorem dec_82 : ∀ (n : Nat) (l : List D), Lv Tryz.prog n 82 l → ∃ x : TCol, D.st l = x.d := by
  intro n0 l h
  obtain ⟨n, hn, ps, rfl, hl, hf⟩ := Lv.struct (ts := [9, 3, 4, 9]) Tryz.underlying82 rfl h
  match ps, hl with
  | [l0, l1, l2, l3], _ =>
    obtain ⟨x0, rfl, _⟩ := Lv.str Tryz.underlying9 (hf 0 9 l0 rfl rfl)
    obtain ⟨x1, rfl, _⟩ := Lv.int Tryz.underlying3 (hf 1 3 l1 rfl rfl)
    obtain ⟨x2, rfl⟩ := Lv.bool Tryz.underlying4 (hf 2 4 l2 rfl rfl)
    obtain ⟨x3, rfl, _⟩ := Lv.str Tryz.underlying9 (hf 3 9 l3 rfl rfl)
    exact ⟨TCol.mk x0 x1 x2 x3, by simp [TCol.d]⟩
theorem dec_61 : ∀ (n : Nat) (l : List D), Lv Tryz.prog n 61 l → ∃ x : TTable, D.st l = x.d := by
  intro n0 l h
  obtain ⟨n, hn, ps, rfl, hl, hf⟩ := Lv.struct (ts := [9, 9, 59, 22, 9, 49]) Tryz.underlying61 rfl h
  match ps, hl with
  | [l0, l1, l2, l3, l4, l5], _ =>
    obtain ⟨x0, rfl, _⟩ := Lv.str Tryz.underlying9 (hf 0 9 l0 rfl rfl)
    obtain ⟨x1, rfl, _⟩ := Lv.str Tryz.underlying9 (hf 1 9 l1 rfl rfl)
    obtain ⟨x2, rfl⟩ := Lv.slice (sz := 4) (g := TCol.d) Tryz.underlying59 (by kernel_rfl) (fun m l hm h => by obtain ⟨x, hx⟩ := (dec_82 m l h); exact ⟨x, (elD_agg (by kernel_rfl)).trans hx⟩) (hf 2 59 l2 rfl rfl)
    obtain ⟨x3, rfl⟩ := Lv.slice (sz := 1) (g := D.str) Tryz.underlying22 (by kernel_rfl) (fun m l hm h => by obtain ⟨x, rfl, _⟩ := Lv.str Tryz.underlying9 h; exact ⟨x, elD_one (by kernel_rfl)⟩) (hf 3 22 l3 rfl rfl)
    obtain ⟨x4, rfl, _⟩ := Lv.str Tryz.underlying9 (hf 4 9 l4 rfl rfl)
    obtain ⟨x5, rfl⟩ := Lv.slice (sz := 6) (g := TExpr.d) Tryz.underlying49 (by kernel_rfl) (fun m l hm h => by obtain ⟨x, hx⟩ := (dec_75 m l h); exact ⟨x, (elD_agg (by kernel_rfl)).trans hx⟩) (hf 5 49 l5 rfl rfl)
    exact ⟨TTable.mk x0 x1 x2 x3 x4 x5, by simp [TTable.d]⟩
theorem dec_26 : ∀ (n : Nat) (l : List D), Lv Tryz.prog n 26 l → ∃ x : TSchema, D.st l = x.d := by
  intro n0 l h
  obtain ⟨n, hn, ps, rfl, hl, hf⟩ := Lv.struct (ts := [22, 23, 24, 23, 23, 3]) Tryz.underlying26 rfl h
  match ps, hl with
  | [l0, l1, l2, l3, l4, l5], _ =>
    obtain ⟨x0, rfl⟩ := Lv.slice (sz := 1) (g := D.str) Tryz.underlying22 (by kernel_rfl) (fun m l hm h => by obtain ⟨x, rfl, _⟩ := Lv.str Tryz.underlying9 h; exact ⟨x, elD_one (by kernel_rfl)⟩) (hf 0 22 l0 rfl rfl)
    obtain ⟨x1, rfl⟩ := Lv.slice (sz := 2) (g := TPair.d) Tryz.underlying23 (by kernel_rfl) (fun m l hm h => by obtain ⟨x, hx⟩ := (dec_34 m l h); exact ⟨x, (elD_agg (by kernel_rfl)).trans hx⟩) (hf 1 23 l1 rfl rfl)
    obtain ⟨x2, rfl⟩ := Lv.slice (sz := 6) (g := TTable.d) Tryz.underlying24 (by kernel_rfl) (fun m l hm h => by obtain ⟨x, hx⟩ := (dec_61 m l h); exact ⟨x, (elD_agg (by kernel_rfl)).trans hx⟩) (hf 2 24 l2 rfl rfl)
    obtain ⟨x3, rfl⟩ := Lv.slice (sz := 2) (g := TPair.d) Tryz.underlying23 (by kernel_rfl) (fun m l hm h => by obtain ⟨x, hx⟩ := (dec_34 m l h); exact ⟨x, (elD_agg (by kernel_rfl)).trans hx⟩) (hf 3 23 l3 rfl rfl)
    obtain ⟨x4, rfl⟩ := Lv.slice (sz := 2) (g := TPair.d) Tryz.underlying23 (by kernel_rfl) (fun m l hm h => by obtain ⟨x, hx⟩ := (dec_34 m l h); exact ⟨x, (elD_agg (by kernel_rfl)).trans hx⟩) (hf 4 23 l4 rfl rfl)
    obtain ⟨x5, rfl, _⟩ := Lv.int Tryz.underlying3 (hf 5 3 l5 rfl rfl)
    exact ⟨TSchema.mk x0 x1 x2 x3 x4 x5, by simp [TSchema.d]⟩
set_option maxRecDepth 100000 in
theorem law08_SchemaParts.lifted (hlaw : ∀ (a0 : TSchema) (a1 : Int) (a2 : Int), ∃ k, law08_SchemaParts k a0 a1 a2 = some true) (os : Os) (started : os.Started) (H : Type) (enc : TypeId × Value → H) :
    ReturnsInHanded {} Tryz.checked os 3 .any (Rows.schemaPartsSpec.pre6 enc Tryz.prog Tryz.f3 Rows.schemaPartsRow.domain false) (Rows.schemaPartsSpec.post enc Tryz.prog Tryz.f3 false true false false) := by
  refine returnsInHanded_of_change (C := Tryz.checked) ownknob started (by kernel_rfl) Tryz.func3 (ChangeSpec.witness6 (enc := enc) (C := Tryz.checked) false ⟨#[], #[.agg #[.slice none 0 0, .slice none 0 0, .slice none 0 0, .slice none 0 0, .slice none 0 0, .int .i64 0], .int .i64 0, .int .i64 0], []⟩ 8 (by kernel_rfl) (by kernel_rfl) (by kernel_rfl) (by kernel_rfl)) ?_
  intro W base args ds gs before hval0 hW hcnd _
  have hval : ∀ (j : Nat) t v, Tryz.f3.params[j]? = some t → args[j]? = some v → Value.okWide Tryz.prog W .any base t v := hval0
  have hW' := hW
  obtain ⟨p, q, hA0, hV, rfl, hfz, hnd⟩ := hW
  have hA : DataW.TrodAll enc Tryz.prog W 0 (fun _ => true) true Tryz.f3.params.toList args.toList ds p := hA0
  rw [Tryz.params3] at hA hval
  obtain ⟨v0, vs0, d0, ds0, p0, q0, hargs, rfl, rfl, h0, r0⟩ := trodAll_cons hA
  obtain ⟨v1, vs1, d1, ds1, p1, q1, rfl, rfl, rfl, h1, r1⟩ := trodAll_cons r0
  obtain ⟨v2, vs2, d2, ds2, p2, q2, rfl, rfl, rfl, h2, r2⟩ := trodAll_cons r1
  obtain ⟨rfl, rfl, rfl⟩ := trodAll_nil r2
  obtain rfl : args = #[v0, v1, v2] := by cases args; simp_all
  obtain ⟨rfl, rfl⟩ := trodVars_none hV
  obtain ⟨n0, l0, hr0, hl0⟩ := rep_arg (TS := [26, 22, 9, 23, 34, 24, 61, 59, 82, 3, 4, 49, 75, 73, 127, 123, 143, 124, 148, 125, 145]) (by kernel_rfl) (t := 26) (by decide) h0
  obtain ⟨a0, ha0⟩ := dec_26 n0 l0 hl0; obtain ⟨cs0, rfl⟩ : ∃ cs, v0 = .agg ⟨cs⟩ := agg_of (hval 0 26 v0 rfl rfl) (by kernel_rfl)
  have hR0 : Rep (hG W) a0.d cs0 := by rw [← ha0]; exact rep_st.2 hr0
  obtain ⟨n1, l1, hr1, hl1⟩ := rep_arg (TS := [26, 22, 9, 23, 34, 24, 61, 59, 82, 3, 4, 49, 75, 73, 127, 123, 143, 124, 148, 125, 145]) (by kernel_rfl) (t := 3) (by decide) h1
  rw [one_of (hval 1 3 v1 rfl rfl) (by kernel_rfl)] at hr1
  obtain ⟨a1, rfl, _⟩ := Lv.int Tryz.underlying3 (hl1)
  have hv1 := rep_int.1 (repF_one.1 hr1); obtain rfl : v1 = _ := List.singleton_inj.1 hv1
  obtain ⟨n2, l2, hr2, hl2⟩ := rep_arg (TS := [26, 22, 9, 23, 34, 24, 61, 59, 82, 3, 4, 49, 75, 73, 127, 123, 143, 124, 148, 125, 145]) (by kernel_rfl) (t := 3) (by decide) h2
  rw [one_of (hval 2 3 v2 rfl rfl) (by kernel_rfl)] at hr2
  obtain ⟨a2, rfl, _⟩ := Lv.int Tryz.underlying3 (hl2)
  have hv2 := rep_int.1 (repF_one.1 hr2); obtain rfl : v2 = _ := List.singleton_inj.1 hv2
  obtain ⟨k, hk⟩ := hlaw a0 a1 a2
  refine (@law08_SchemaParts.ok k a0 a1 a2 true hk W (hG W) _ (Inv.start (inG_hG W)) hR0).mono ?_
  rintro e W' ⟨v, G', L', rfl, hI, _, rfl⟩
  exact ⟨_, rfl, post_law (by kernel_rfl) (by rw [Tryz.params3]; intro t ht; simp only [Array.toList] at ht; revert t; decide +kernel) rfl rfl Tryz.underlying4 hW' hI.below rfl⟩
theorem law08_SchemaParts.row (hlaw : ∀ (a0 : TSchema) (a1 : Int) (a2 : Int), ∃ k, law08_SchemaParts k a0 a1 a2 = some true) : Rows.SchemaPartsSaid :=
  OpenClaim.holds_of_wide 3 Tryz.f3 rfl rfl rfl rfl rfl rfl rfl ⟨rfl, rfl, rfl, rfl, rfl⟩ rfl rfl rfl rfl rfl (by kernel_rfl) Tryz.func3 (by kernel_rfl)
    (of_decide_eq_true (by kernel_rfl)) (by unfold Func.isWrapper; first | (rw [if_pos (by decide +kernel)]; kernel_rfl) | (rw [if_neg (by decide +kernel)]; exact ⟨rfl, rfl⟩))
    (fun os started H enc _ => law08_SchemaParts.lifted hlaw os started H enc)
end Go.Proofs.YtliaopbgkcdibaaGreat
