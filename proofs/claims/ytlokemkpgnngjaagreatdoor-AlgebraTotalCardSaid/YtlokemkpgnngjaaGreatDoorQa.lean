/- AlgebraTotal: who is in a list that is sorted and compacted. No program in sight. -/
import Derived.Sort.Row
import Derived.Lib.SlicesCompact
namespace Go.Proofs.YtlokemkpgnngjaaGreatDoor
open Go.Lib
theorem mem_upTo (d : Array Int) : ∀ (m : Nat) (x : Int), x ∈ compactUpTo d m ↔ ∃ j, j < m ∧ d[j]! = x := by
  intro m
  induction m with
  | zero => intro x; simp [compactUpTo]
  | succ m ih =>
    intro x
    rw [compactUpTo_succ, List.mem_append, ih]
    constructor
    · rintro (⟨j, hj, rfl⟩ | h)
      · exact ⟨j, by omega, rfl⟩
      · split at h
        · simp at h; exact ⟨m, by omega, h.symm⟩
        · cases h
    · rintro ⟨j, hj, rfl⟩
      by_cases e : j < m
      · exact .inl ⟨j, e, rfl⟩
      · obtain rfl : j = m := by omega
        by_cases hk : keeps d j = true
        · right; simp [hk]
        · left
          have h0 : ¬ (j = 0 ∨ d[j]! ≠ d[j - 1]!) := by simpa [keeps] using hk
          have h1 : j ≠ 0 := fun e => h0 (.inl e)
          have h2 : d[j]! = d[j - 1]! := Classical.byContradiction fun e => h0 (.inr e)
          exact ⟨j - 1, by omega, h2.symm⟩
theorem mem_compact (l : List Int) (x : Int) : x ∈ compact l ↔ x ∈ l := by
  unfold compact
  rw [mem_upTo]
  constructor
  · rintro ⟨j, hj, rfl⟩
    simp [hj]
  · intro h
    obtain ⟨j, hj, rfl⟩ := List.mem_iff_getElem.1 h
    exact ⟨j, hj, by simp [hj]⟩
theorem mem_uses (l : List Int) (x : Int) : x ∈ compact (l.mergeSort fun x y => decide (x ≤ y)) ↔ x ∈ l := by rw [mem_compact, List.mem_mergeSort]
end Go.Proofs.YtlokemkpgnngjaaGreatDoor
