/- LabelsNil's and ChangeNil's plain laws: without a catalog there are no levels; without a store nothing is changed. No program in sight. -/
import Derived.Test.YtlokemkpgnngjaaGreatDoorCpL
set_option maxRecDepth 100000
namespace Go.Proofs.YtlokemkpgnngjaaGreatDoor
theorem ChangeNil_law (t : Int) (n : List TNode) (p : TPlan) : ∃ k, law14_ChangeNil k t n p = some true := ⟨1, rfl⟩
theorem column_none (k : Nat) (t i : Int) : labels_Column k none t i = some (-1) := by
  have h : schema_Catalog_Tables k none = some [] := rfl
  unfold labels_Column
  rw [h, Option.bind_some]
  by_cases h : t < 0
  · rw [decide_eq_true h]; rfl
  · have h2 : (((([] : List TRelation).length : Nat) : Int) ≤ t) := by simp only [List.length_nil, Int.natCast_zero]; omega
    rw [decide_eq_false h, decide_eq_true h2]; rfl
theorem exists_none (k : Nat) (t : Int) : labels_Exists k none t = some (-1) := by
  have h : schema_Catalog_Tables k none = some [] := rfl
  unfold labels_Exists
  rw [h, Option.bind_some]
  by_cases h : t < 0
  · rw [decide_eq_true h]; rfl
  · have h2 : (((([] : List TRelation).length : Nat) : Int) ≤ t) := by simp only [List.length_nil, Int.natCast_zero]; omega
    rw [decide_eq_false h, decide_eq_true h2]; rfl
theorem LabelsNil_law (n : TNode) (p : TPlan) (t i : Int) : ∃ k, law17_LabelsNil k n p t i = some true := by
  refine ⟨1, ?_⟩
  unfold law17_LabelsNil
  rw [column_none, exists_none]
  rfl
end Go.Proofs.YtlokemkpgnngjaaGreatDoor
