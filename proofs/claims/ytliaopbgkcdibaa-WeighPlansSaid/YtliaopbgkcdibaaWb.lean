/- The package plane, in plain words: costs of whole numbers. No program in sight. -/
import Derived.Test.YtliaopbgkcdibaaCpW
import Derived.Test.YtliaopbgkcdibaaWa
set_option linter.unusedVariables false
set_option linter.unusedSimpArgs false
namespace Go.Proofs.Ytliaopbgkcdibaa
def cp (s r : Nat) : Nat × Nat := (F s, F r)
def cut (n : Nat) : Nat := min n 1099511627776
theorem cut_le (n : Nat) : cut n ≤ 1099511627776 := Nat.min_le_right _ _
theorem cut_of {n : Nat} (h : n ≤ 1099511627776) : cut n = n := Nat.min_eq_left h
theorem whole_F (k : Nat) {n : Nat} (h : n ≤ 1099511627776) : plane_whole k (F n) = some true := by
  unfold plane_whole math_Trunc
  have h1 : fge (F n) (0 : Nat) = true := by rw [show (0 : Nat) = F 0 from F_zero.symm, fge_F (by omega) (by decide)]; simp
  have h2 : fle (F n) (4787326403894837248 : Nat) = true := by rw [← F_most, fle_F (by omega) (by decide), decide_eq_true h]
  have h3 : feq (F n) (F n) = true := by rw [feq_F (by omega) (by omega)]; simp
  simp only [h1, h2, cond_true, ftrunc_F (show n < 2 ^ 53 by omega), Option.bind_some, h3]
theorem right_cp (k : Nat) {s r : Nat} (hs : s ≤ 1099511627776) (hr : r ≤ 1099511627776) : plane_Right k (cp s r) = some true := by
  unfold plane_Right cp
  simp only [whole_F k hs, whole_F k hr, Option.bind_some, cond_true]
theorem both_cp (k : Nat) {s r s' r' : Nat} (hs : s ≤ 1099511627776) (hr : r ≤ 1099511627776) (hs' : s' ≤ 1099511627776) (hr' : r' ≤ 1099511627776) : plane_both k (cp s r) (cp s' r') = some true := by
  unfold plane_both
  simp only [right_cp k hs hr, right_cp k hs' hr', Option.bind_some, cond_true]
theorem steps_cp (k : Nat) {s r : Nat} (hs : s ≤ 1099511627776) (hr : r ≤ 1099511627776) : plane_Steps k (cp s r) = some (s : Int) := by
  unfold plane_Steps
  simp only [right_cp k hs hr, Option.bind_some, Bool.not_true, cond_false]
  unfold cp
  rw [ftoInt_F (by omega)]; rfl
theorem rows_cp (k : Nat) {s r : Nat} (hs : s ≤ 1099511627776) (hr : r ≤ 1099511627776) : plane_Rows k (cp s r) = some (r : Int) := by
  unfold plane_Rows
  simp only [right_cp k hs hr, Option.bind_some, Bool.not_true, cond_false]
  unfold cp
  rw [ftoInt_F (by omega)]; rfl
theorem cut_F (k : Nat) {n : Nat} (h : n < 2 ^ 53) : plane_cut k (F n) = some (F (cut n)) := by
  unfold plane_cut
  rw [← F_most, fmin_F h (by decide)]; rfl
theorem clamp_int (a : Int) : max (0 : Int) (min a (1099511627776 : Int)) = ((cut a.toNat : Nat) : Int) := by unfold cut; omega
theorem cost_any (k : Nat) (a b : Int) : weigh_cost k a b = some (cp (cut a.toNat) (cut b.toNat)) := by
  unfold weigh_cost plane_At
  have h1 := cut_le a.toNat; have h2 := cut_le b.toNat
  rw [clamp_int, clamp_int]
  generalize cut a.toNat = x at h1 ⊢
  generalize cut b.toNat = y at h2 ⊢
  simp only [decide_eq_false (show ¬ ((x : Nat) : Int) < 0 by omega), decide_eq_false (show ¬ (1099511627776 : Int) < ((x : Nat) : Int) by omega), decide_eq_false (show ¬ ((y : Nat) : Int) < 0 by omega), decide_eq_false (show ¬ (1099511627776 : Int) < ((y : Nat) : Int) by omega), cond_false, Option.bind_some, fof, cp]
theorem cost_nat (k : Nat) {a b : Nat} (ha : a ≤ 1099511627776) (hb : b ≤ 1099511627776) : weigh_cost k (a : Int) (b : Int) = some (cp a b) := by
  rw [cost_any, Int.toNat_natCast, Int.toNat_natCast, cut_of ha, cut_of hb]
theorem rowsOf_cp (k : Nat) {s r : Nat} (hs : s ≤ 1099511627776) (hr : r ≤ 1099511627776) : weigh_rowsOf k (cp s r) = some (cp r r) := by
  unfold weigh_rowsOf
  simp only [rows_cp k hs hr, Option.bind_some, cost_nat k hr hr]
theorem then_cp (k : Nat) {s r s' r' : Nat} (hs : s ≤ 1099511627776) (hr : r ≤ 1099511627776) (hs' : s' ≤ 1099511627776) (hr' : r' ≤ 1099511627776) : plane_Then k (cp s r) (cp s' r') = some (cp (cut (s + s')) r') := by
  unfold plane_Then
  simp only [both_cp k hs hr hs' hr', Option.bind_some, Bool.not_true, cond_false]
  unfold cp
  simp only [fadd_F (show s < 2 ^ 52 by omega) (show s' < 2 ^ 52 by omega), Option.bind_some, cut_F k (show s + s' < 2 ^ 53 by omega)]
theorem beside_cp (k : Nat) {s r s' r' : Nat} (hs : s ≤ 1099511627776) (hr : r ≤ 1099511627776) (hs' : s' ≤ 1099511627776) (hr' : r' ≤ 1099511627776) : plane_Beside k (cp s r) (cp s' r') = some (cp (cut (s + s')) (cut (r + r'))) := by
  unfold plane_Beside cadd
  simp only [both_cp k hs hr hs' hr', Option.bind_some, Bool.not_true, cond_false]
  unfold cp
  simp only [fadd_F (show s < 2 ^ 52 by omega) (show s' < 2 ^ 52 by omega), fadd_F (show r < 2 ^ 52 by omega) (show r' < 2 ^ 52 by omega), Option.bind_some, cut_F k (show s + s' < 2 ^ 53 by omega), cut_F k (show r + r' < 2 ^ 53 by omega)]
theorem mul_cut (k : Nat) {a b : Nat} (ha : a ≤ 1099511627776) (hb : b ≤ 1099511627776) : ∃ z, fmul (F a) (F b) = some z ∧ plane_cut k z = some (F (cut (a * b))) := by
  obtain ⟨z, h1, h2⟩ := fmul_F (N := a) (M := b) (by omega) (by omega)
  refine ⟨z, h1, ?_⟩
  rcases h2 with ⟨h2, rfl⟩ | ⟨h2, h3⟩
  · exact cut_F k h2
  · unfold plane_cut fmin
    rw [← F_most, h3]
    have : cut (a * b) = 1099511627776 := Nat.min_eq_right (by omega)
    rw [this]; rfl
theorem nest_cp (k : Nat) {s r s' r' : Nat} (hs : s ≤ 1099511627776) (hr : r ≤ 1099511627776) (hs' : s' ≤ 1099511627776) (hr' : r' ≤ 1099511627776) : plane_Nest k (cp s r) (cp s' r') = some (cp (cut (s + cut (r * s'))) (cut (r * r'))) := by
  obtain ⟨z, h1, h2⟩ := mul_cut k hr hs'
  obtain ⟨y, h3, h4⟩ := mul_cut k hr hr'
  have h5 := cut_le (r * s')
  unfold plane_Nest
  simp only [both_cp k hs hr hs' hr', Option.bind_some, Bool.not_true, cond_false]
  unfold cp
  simp only [h1, h2, h3, h4, Option.bind_some, fadd_F (show s < 2 ^ 52 by omega) (show cut (r * s') < 2 ^ 52 by omega), cut_F k (show s + cut (r * s') < 2 ^ 53 by omega)]
theorem worst_cp (k : Nat) {s r s' r' : Nat} (hs : s ≤ 1099511627776) (hr : r ≤ 1099511627776) (hs' : s' ≤ 1099511627776) (hr' : r' ≤ 1099511627776) : plane_Worst k (cp s r) (cp s' r') = some (cp (max s s') (max r r')) := by
  unfold plane_Worst
  simp only [both_cp k hs hr hs' hr', Option.bind_some, Bool.not_true, cond_false]
  unfold cp
  simp only [fmax_F (show s < 2 ^ 53 by omega) (show s' < 2 ^ 53 by omega), fmax_F (show r < 2 ^ 53 by omega) (show r' < 2 ^ 53 by omega), Option.bind_some]
theorem within_cp (k : Nat) {s r s' r' : Nat} (hs : s ≤ 1099511627776) (hr : r ≤ 1099511627776) (hs' : s' ≤ 1099511627776) (hr' : r' ≤ 1099511627776) (h1 : s ≤ s') (h2 : r ≤ r') : plane_Within k (cp s r) (cp s' r') = some true := by
  unfold plane_Within
  simp only [both_cp k hs hr hs' hr', Option.bind_some, cond_true]
  unfold cp
  simp only [fle_F (show s < 2 ^ 53 by omega) (show s' < 2 ^ 53 by omega), fle_F (show r < 2 ^ 53 by omega) (show r' < 2 ^ 53 by omega), decide_eq_true h1, decide_eq_true h2, cond_true, Option.bind_some]
/-- the cost of two kids, put together: looked, rows -/
def two (kind : Int) (ra rb : Nat) : Nat × Nat :=
  if kind = 6 then (cut (ra * rb), cut (ra * rb)) else if kind = 7 then (cut (ra * rb), cut (ra * max rb 1)) else if kind = 14 ∨ kind = 15 then (cut (ra + rb), ra) else (cut (ra + rb), cut (ra + rb))
theorem both_two (k : Nat) (kind : Int) {ra rb : Nat} (ha : ra ≤ 1099511627776) (hb : rb ≤ 1099511627776) : weigh_both k kind (cp ra ra) (cp rb rb) = some (cp (two kind ra rb).1 (two kind ra rb).2) := by
  unfold weigh_both two
  simp only [nest_cp k ha ha hb hb, Option.bind_some, rows_cp k (cut_le _) (cut_le _)]
  by_cases h6 : kind = 6
  · simp only [decide_eq_true h6, cond_true, if_pos h6, cost_nat k (cut_le _) (cut_le _), Option.bind_some]
  · simp only [decide_eq_false h6, cond_false, if_neg h6]
    by_cases h7 : kind = 7
    · have h1 := cost_nat k (show 1 ≤ 1099511627776 by decide) (show 1 ≤ 1099511627776 by decide)
      have hm : max rb 1 ≤ 1099511627776 := by omega
      simp only [decide_eq_true h7, cond_true, if_pos h7, show (1 : Int) = ((1 : Nat) : Int) from rfl, h1, Option.bind_some, worst_cp k hb hb (show 1 ≤ 1099511627776 by decide) (show 1 ≤ 1099511627776 by decide), nest_cp k ha ha hm hm, rows_cp k (cut_le _) (cut_le _), cost_nat k (cut_le _) (cut_le _)]
    · simp only [decide_eq_false h7, cond_false, if_neg h7]
      by_cases h14 : kind = 14
      · simp only [decide_eq_true h14, cond_true, Option.bind_some, if_pos (show kind = 14 ∨ kind = 15 from .inl h14), beside_cp k ha ha hb hb, rows_cp k (cut_le _) (cut_le _), rows_cp k ha ha, cost_nat k (cut_le _) ha]
      · by_cases h15 : kind = 15
        · simp only [decide_eq_false h14, decide_eq_true h15, cond_true, cond_false, Option.bind_some, if_pos (show kind = 14 ∨ kind = 15 from .inr h15), beside_cp k ha ha hb hb, rows_cp k (cut_le _) (cut_le _), rows_cp k ha ha, cost_nat k (cut_le _) ha]
        · simp only [decide_eq_false h14, decide_eq_false h15, cond_false, Option.bind_some, if_neg (show ¬ (kind = 14 ∨ kind = 15) by omega), beside_cp k ha ha hb hb]
theorem two_le (kind : Int) {ra rb : Nat} (ha : ra ≤ 1099511627776) : (two kind ra rb).1 ≤ 1099511627776 ∧ (two kind ra rb).2 ≤ 1099511627776 := by
  unfold two
  split
  · exact ⟨cut_le _, cut_le _⟩
  · split
    · exact ⟨cut_le _, cut_le _⟩
    · split
      · exact ⟨cut_le _, ha⟩
      · exact ⟨cut_le _, cut_le _⟩
theorem cut_mono {a b : Nat} (h : a ≤ b) : cut a ≤ cut b := by unfold cut; omega
theorem two_mono (kind : Int) {ra rb ra' rb' : Nat} (ha : ra ≤ ra') (hb : rb ≤ rb') : (two kind ra rb).1 ≤ (two kind ra' rb').1 ∧ (two kind ra rb).2 ≤ (two kind ra' rb').2 := by
  unfold two
  have h1 := cut_mono (Nat.mul_le_mul ha hb)
  have h2 := cut_mono (Nat.mul_le_mul ha (show max rb 1 ≤ max rb' 1 by omega))
  have h3 := cut_mono (Nat.add_le_add ha hb)
  split
  · exact ⟨h1, h1⟩
  · split
    · exact ⟨h1, h2⟩
    · split
      · exact ⟨h3, ha⟩
      · exact ⟨h3, h3⟩
/-- the reference's sum and product -/
theorem add_cut (k : Nat) {a b : Nat} (ha : a ≤ 1099511627776) (hb : b ≤ 1099511627776) : ref21_add k (a : Int) (b : Int) = some ((cut (a + b) : Nat) : Int) := by
  unfold ref21_add
  have hw : w64 ((a : Int) + (b : Int)) = ((a + b : Nat) : Int) := by rw [w64_id (by omega)]; omega
  rw [hw]
  unfold cut
  by_cases h : 1099511627776 < a + b
  · rw [decide_eq_true (by omega), cond_true, Nat.min_eq_right (by omega)]; rfl
  · rw [decide_eq_false (by omega), cond_false, Nat.min_eq_left (by omega)]
theorem times_cut (k : Nat) {a b : Nat} (ha : a ≤ 1099511627776) (hb : b ≤ 1099511627776) : ref21_times k (a : Int) (b : Int) = some ((cut (a * b) : Nat) : Int) := by
  unfold ref21_times
  by_cases h0 : a = 0
  · subst h0
    simp [cut]
  · by_cases h1 : b = 0
    · subst h1
      simp [cut]
    · have hq : quoO .i64 (1099511627776 : Int) (a : Int) = some ((1099511627776 / a : Nat) : Int) := by
        unfold quoO
        rw [if_neg (by omega)]
        have e : (1099511627776 : Int).tdiv (a : Int) = ((1099511627776 / a : Nat) : Int) := rfl
        rw [e]
        have : 1099511627776 / a ≤ 1099511627776 := Nat.div_le_self _ _
        generalize 1099511627776 / a = x at this ⊢
        rw [show IntKind.i64.wrap ((x : Nat) : Int) = ((x : Nat) : Int) from w64_id (by omega)]
      simp only [decide_eq_false (show ¬ (a : Int) = 0 by omega), decide_eq_false (show ¬ (b : Int) = 0 by omega), cond_false, Option.bind_some, hq]
      unfold cut
      by_cases h2 : 1099511627776 / a < b
      · have h3 : 1099511627776 < a * b := by
          have := (Nat.div_lt_iff_lt_mul (show 0 < a by omega)).1 h2
          rwa [Nat.mul_comm] at this
        rw [decide_eq_true (by omega), cond_true, Nat.min_eq_right (by omega)]; rfl
      · have h3 : a * b ≤ 1099511627776 := by
          have := (Nat.le_div_iff_mul_le (show 0 < a by omega)).1 (show b ≤ 1099511627776 / a by omega)
          rwa [Nat.mul_comm] at this
        have hw : w64 ((a : Int) * (b : Int)) = ((a * b : Nat) : Int) := by
          rw [← Int.natCast_mul, w64_id (by omega)]
        rw [decide_eq_false (by omega), cond_false, hw, Nat.min_eq_left h3]
end Go.Proofs.Ytliaopbgkcdibaa
