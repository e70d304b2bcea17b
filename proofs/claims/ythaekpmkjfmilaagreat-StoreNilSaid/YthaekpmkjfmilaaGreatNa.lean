/- StoreNil's and EraseNil's plain laws: a store that is none has nothing, and of it nothing is seen. No program in sight. -/
import Derived.Test.YthaekpmkjfmilaaGreatCpN
set_option maxRecDepth 100000
namespace Go.Proofs.YthaekpmkjfmilaaGreat
theorem StoreNil_law (t : Int) (row : List TValue) : ∃ k, law12_StoreNil k t row = some true := ⟨1, rfl⟩
theorem outs_none (k : Nat) (c : List TOut) (l : Int) : erase_Outs k none c l = some [] := by
  have key : ∀ (c : List TOut) (i : Nat), forL (erase_Outs.b0 k [] none l) i c [] = some (.go []) := by
    intro c
    induction c with
    | nil => intro i; rfl
    | cons x c ih =>
      intro i
      have h : erase_Outs.b0 k [] none l i x [] = some (.next []) := by
        unfold erase_Outs.b0
        by_cases h : (0 : Int) ≤ x.Channel
        · have h2 : ¬ x.Channel < ((([] : List TNamed).length : Nat) : Int) := by simp only [List.length_nil, Int.natCast_zero]; omega
          rw [decide_eq_true h, decide_eq_false h2]; rfl
        · rw [decide_eq_false h]; rfl
      show (erase_Outs.b0 k [] none l i x []).bind _ = _
      rw [h]
      exact ih (i + 1)
  show ((forL (erase_Outs.b0 k [] none l) 0 c []).bind _) = _
  rw [key]
  rfl
theorem EraseNil_law (l : Int) (c : List TOut) : ∃ k, law20_EraseNil k l c = some true := by
  refine ⟨1, ?_⟩
  unfold law20_EraseNil
  cases decide ((60:Int) < (c.length:Int)) with
  | true => rfl
  | false =>
    simp only [cond_false, erase_Show, erase_Same, erase_Mix, outs_none, Option.isNone_none, cond_true, Option.bind_some, List.length_nil, Int.natCast_zero, decide_true]
    rfl
end Go.Proofs.YthaekpmkjfmilaaGreat
