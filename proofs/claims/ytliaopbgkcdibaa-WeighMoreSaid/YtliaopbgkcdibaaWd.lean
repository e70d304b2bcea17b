/- What a plan costs, in whole numbers; the program and the reference both come to it, for any plan that the guard lets in; with more rows it is no less. No program in sight. -/
import Derived.Test.YtliaopbgkcdibaaWc
set_option linter.unusedVariables false
set_option linter.unusedSimpArgs false
namespace Go.Proofs.Ytliaopbgkcdibaa
def arity (kind : Int) : Int := if kind = 1 ∨ kind = 2 ∨ kind = 3 then 0 else if kind = 4 ∨ kind = 5 ∨ kind = 8 ∨ kind = 9 ∨ kind = 10 ∨ kind = 11 then 1 else if kind = 6 ∨ kind = 7 ∨ kind = 12 ∨ kind = 13 ∨ kind = 14 ∨ kind = 15 then 2 else -1
theorem kids_arity (k : Nat) (kind : Int) : weigh_kids k kind = some (arity kind) := by
  unfold weigh_kids weigh_kids.j0 weigh_kids.j1 weigh_kids.j2 arity
  by_cases h : 1 ≤ kind ∧ kind ≤ 15
  · obtain ⟨n, rfl⟩ : ∃ n : Nat, kind = (n : Int) := ⟨kind.toNat, by omega⟩
    have hn : n < 16 := by omega
    have : ∀ n : Nat, n < 16 → 1 ≤ n → n = 1 ∨ n = 2 ∨ n = 3 ∨ n = 4 ∨ n = 5 ∨ n = 6 ∨ n = 7 ∨ n = 8 ∨ n = 9 ∨ n = 10 ∨ n = 11 ∨ n = 12 ∨ n = 13 ∨ n = 14 ∨ n = 15 := by omega
    rcases this n hn (by omega) with rfl | rfl | rfl | rfl | rfl | rfl | rfl | rfl | rfl | rfl | rfl | rfl | rfl | rfl | rfl <;> rfl
  · have hne : ∀ c : Int, 1 ≤ c → c ≤ 15 → ¬ kind = c := fun c h1 h2 h3 => h (by omega)
    simp only [decide_eq_false (hne 1 (by omega) (by omega)), decide_eq_false (hne 2 (by omega) (by omega)), decide_eq_false (hne 3 (by omega) (by omega)), decide_eq_false (hne 4 (by omega) (by omega)), decide_eq_false (hne 5 (by omega) (by omega)), decide_eq_false (hne 6 (by omega) (by omega)), decide_eq_false (hne 7 (by omega) (by omega)), decide_eq_false (hne 8 (by omega) (by omega)), decide_eq_false (hne 9 (by omega) (by omega)), decide_eq_false (hne 10 (by omega) (by omega)), decide_eq_false (hne 11 (by omega) (by omega)), decide_eq_false (hne 12 (by omega) (by omega)), decide_eq_false (hne 13 (by omega) (by omega)), decide_eq_false (hne 14 (by omega) (by omega)), decide_eq_false (hne 15 (by omega) (by omega)), cond_false, Option.bind_some]
    rw [if_neg (by omega), if_neg (by omega), if_neg (by omega)]
theorem ref_arity (k : Nat) (kind : Int) : ref21_arity k kind = some (arity kind) := by
  unfold ref21_arity arity
  by_cases h : 1 ≤ kind ∧ kind ≤ 15
  · obtain ⟨n, rfl⟩ : ∃ n : Nat, kind = (n : Int) := ⟨kind.toNat, by omega⟩
    have hn : n < 16 := by omega
    have : ∀ n : Nat, n < 16 → 1 ≤ n → n = 1 ∨ n = 2 ∨ n = 3 ∨ n = 4 ∨ n = 5 ∨ n = 6 ∨ n = 7 ∨ n = 8 ∨ n = 9 ∨ n = 10 ∨ n = 11 ∨ n = 12 ∨ n = 13 ∨ n = 14 ∨ n = 15 := by omega
    rcases this n hn (by omega) with rfl | rfl | rfl | rfl | rfl | rfl | rfl | rfl | rfl | rfl | rfl | rfl | rfl | rfl | rfl <;> rfl
  · have hne : ∀ c : Int, 1 ≤ c → c ≤ 15 → ¬ kind = c := fun c h1 h2 h3 => h (by omega)
    rw [if_neg (by omega), if_neg (by omega), if_neg (by omega)]
    by_cases h1 : 1 ≤ kind
    · have : 15 < kind := by omega
      simp only [decide_eq_true h1, decide_eq_false (show ¬ kind ≤ 3 by omega), decide_eq_false (hne 4 (by omega) (by omega)), decide_eq_false (hne 5 (by omega) (by omega)), decide_eq_true (show (8 : Int) ≤ kind by omega), decide_eq_false (show ¬ kind ≤ 11 by omega), decide_eq_false (hne 6 (by omega) (by omega)), decide_eq_false (hne 7 (by omega) (by omega)), decide_eq_true (show (12 : Int) ≤ kind by omega), decide_eq_false (show ¬ kind ≤ 15 by omega), cond_true, cond_false, Option.bind_some]
    · simp only [decide_eq_false h1, decide_eq_false (hne 4 (by omega) (by omega)), decide_eq_false (hne 5 (by omega) (by omega)), decide_eq_false (show ¬ (8 : Int) ≤ kind by omega), decide_eq_false (hne 6 (by omega) (by omega)), decide_eq_false (hne 7 (by omega) (by omega)), decide_eq_false (show ¬ (12 : Int) ≤ kind by omega), cond_true, cond_false, Option.bind_some]
/-- how many rows a table has -/
def rowsAt (sz : List Int) (i : Int) : Nat := if 0 ≤ i ∧ i < sz.length then (max (0 : Int) (min (sz.getD i.toNat 0) 100)).toNat else 0
theorem rowsAt_le (sz : List Int) (i : Int) : rowsAt sz i ≤ 100 := by unfold rowsAt; split <;> omega
theorem size_rows (k : Nat) (sz : List Int) (i : Int) : weigh_size k sz i = some (rowsAt sz i : Int) := by
  unfold weigh_size rowsAt
  by_cases h0 : i < 0
  · simp only [decide_eq_true h0, cond_true, Option.bind_some]
    rw [if_neg (by omega)]; rfl
  · by_cases h1 : (sz.length : Int) ≤ i
    · simp only [decide_eq_false h0, decide_eq_true h1, cond_true, cond_false, Option.bind_some]
      rw [if_neg (by omega)]; rfl
    · simp only [decide_eq_false h0, decide_eq_false h1, cond_false, Option.bind_some]
      rw [if_pos (by omega)]
      have hl : i.toNat < sz.length := by omega
      have : getO sz i = some (sz.getD i.toNat 0) := by
        unfold getO
        rw [if_pos (by omega), List.getElem?_eq_getElem hl, List.getD_eq_getElem?_getD, List.getElem?_eq_getElem hl]; rfl
      rw [this]
      simp only [Option.bind_some]
      congr 1
      omega
/-- the end of a plan's cost: how many steps its kids have, how many rows it looks at, how many it has -/
def fin (kind N : Int) (keys : Nat) (W s looked rows : Nat) : Nat × Nat :=
  (cut (cut (s + cut (looked * W)) + looked), if kind = 11 then min rows N.toNat else if kind = 8 ∧ keys = 0 then 1 else rows)
mutual
def cost : Nat → List Int → TPlan → Nat × Nat
  | 0, _, _ => (0, 0)
  | k + 1, sz, p =>
    if ¬ (p.Kids.length : Int) = arity p.Kind then (0, 0) else if p.Kind = 1 then (1, 1) else if p.Kind ≤ 3 then (rowsAt sz p.N, rowsAt sz p.N) else
    match p.Kids with
    | [a] => fin p.Kind p.N p.Keys.length (cut (nsum k sz (p.E ++ p.Aggs.flatMap TGather.E))) (cost k sz a).1 (cost k sz a).2 (cost k sz a).2
    | [a, b] => fin p.Kind p.N p.Keys.length (cut (nsum k sz (p.E ++ p.Aggs.flatMap TGather.E))) (cut ((cost k sz a).1 + (cost k sz b).1)) (two p.Kind (cost k sz a).2 (cost k sz b).2).1 (two p.Kind (cost k sz a).2 (cost k sz b).2).2
    | _ => (0, 0)
def nsum : Nat → List Int → List TNode → Nat
  | 0, _, _ => 0
  | k + 1, sz, l => (l.map fun n => (n.Plans.map fun q => (cost k sz q).1).sum + cut (nsum k sz n.Kids)).sum
end
theorem fin_le (kind N : Int) (keys W s looked : Nat) {rows : Nat} (h : rows ≤ 1099511627776) : (fin kind N keys W s looked rows).1 ≤ 1099511627776 ∧ (fin kind N keys W s looked rows).2 ≤ 1099511627776 := by
  unfold fin
  refine ⟨cut_le _, ?_⟩
  show (if kind = 11 then min rows N.toNat else if kind = 8 ∧ keys = 0 then 1 else rows) ≤ _
  split
  · omega
  · split <;> omega
theorem cost_le : ∀ (k : Nat) (sz : List Int) (p : TPlan), (cost k sz p).1 ≤ 1099511627776 ∧ (cost k sz p).2 ≤ 1099511627776
  | 0, sz, p => by unfold cost; omega
  | k + 1, sz, p => by
    have := rowsAt_le sz p.N
    unfold cost
    split
    · exact ⟨by omega, by omega⟩
    · split
      · exact ⟨by omega, by omega⟩
      · split
        · exact ⟨by show rowsAt sz p.N ≤ _; omega, by show rowsAt sz p.N ≤ _; omega⟩
        · split
          · exact fin_le _ _ _ _ _ _ (cost_le k sz _).2
          · exact fin_le _ _ _ _ _ _ (two_le _ (cost_le k sz _).2).2
          · exact ⟨by omega, by omega⟩
theorem sum_mono {α : Type} {f g : α → Nat} : ∀ (l : List α), (∀ x, x ∈ l → f x ≤ g x) → (l.map f).sum ≤ (l.map g).sum
  | [], _ => Nat.le_refl _
  | x :: l, h => by
    simp only [List.map_cons, List.sum_cons]
    exact Nat.add_le_add (h x List.mem_cons_self) (sum_mono l fun y hy => h y (List.mem_cons_of_mem _ hy))
theorem fin_mono (kind N : Int) (keys : Nat) {W W' s s' l l' r r' : Nat} (h1 : W ≤ W') (h2 : s ≤ s') (h3 : l ≤ l') (h4 : r ≤ r') : (fin kind N keys W s l r).1 ≤ (fin kind N keys W' s' l' r').1 ∧ (fin kind N keys W s l r).2 ≤ (fin kind N keys W' s' l' r').2 := by
  unfold fin
  constructor
  · exact cut_mono (Nat.add_le_add (cut_mono (Nat.add_le_add h2 (cut_mono (Nat.mul_le_mul h3 h1)))) h3)
  · show (if kind = 11 then min r N.toNat else if kind = 8 ∧ keys = 0 then 1 else r) ≤ if kind = 11 then min r' N.toNat else if kind = 8 ∧ keys = 0 then 1 else r'
    split
    · omega
    · split <;> omega
/-- With more rows nothing costs less. -/
theorem more {sz sz' : List Int} (h : ∀ i, rowsAt sz i ≤ rowsAt sz' i) : ∀ k, (∀ p, (cost k sz p).1 ≤ (cost k sz' p).1 ∧ (cost k sz p).2 ≤ (cost k sz' p).2) ∧ ∀ l, nsum k sz l ≤ nsum k sz' l
  | 0 => ⟨fun p => by unfold cost; omega, fun l => by unfold nsum; omega⟩
  | k + 1 => by
    obtain ⟨ih1, ih2⟩ := more h k
    constructor
    · intro p
      unfold cost
      split
      · exact ⟨Nat.le_refl _, Nat.le_refl _⟩
      · split
        · exact ⟨Nat.le_refl _, Nat.le_refl _⟩
        · split
          · exact ⟨h _, h _⟩
          · split
            · exact fin_mono _ _ _ (cut_mono (ih2 _)) (ih1 _).1 (ih1 _).2 (ih1 _).2
            · rename_i x a b he
              have := two_mono p.Kind (ih1 a).2 (ih1 b).2
              exact fin_mono _ _ _ (cut_mono (ih2 _)) (cut_mono (Nat.add_le_add (ih1 _).1 (ih1 _).1)) this.1 this.2
            · exact ⟨Nat.le_refl _, Nat.le_refl _⟩
    · intro l
      unfold nsum
      exact sum_mono l fun n _ => Nat.add_le_add (sum_mono _ fun q _ => (ih1 q).1) (cut_mono (ih2 _))
theorem cut_add (a b : Nat) : cut (cut a + b) = cut (a + b) := by unfold cut; omega
theorem cut_addr (a b : Nat) : cut (a + cut b) = cut (a + b) := by unfold cut; omega
theorem cut_cut (a : Nat) : cut (cut a) = cut a := by unfold cut; omega
end Go.Proofs.Ytliaopbgkcdibaa
