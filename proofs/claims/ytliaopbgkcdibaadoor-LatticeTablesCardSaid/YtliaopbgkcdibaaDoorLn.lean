/- LatticeTables and LatticeNil, the plain laws: which level stands below which, the least above and the greatest below any two, and which stand above one, is as the reference says; a lattice that is none has no levels. No program in sight. -/
import Derived.Test.YtliaopbgkcdibaaDoorLl
set_option linter.unusedVariables false
set_option linter.unusedSimpArgs false
namespace Go.Proofs.YtliaopbgkcdibaaDoor
section
variable {n : Nat} {r : Nat → Nat → Prop} {L : Tlattice_Lattice} {R : Tref03_Lattice}
theorem is_any (k : Nat) (h : Lat n r L) (a : Int) : lattice_Lattice_is k (some L) a = some (decide (0 ≤ a ∧ a < n)) := by
  unfold lattice_Lattice_is
  by_cases h0 : 0 ≤ a
  · simp only [Option.isNone_some, Bool.not_false, cond_true, decide_eq_true h0, optE, h.names, Option.bind_some, h0, true_and, decide_true]
  · simp only [Option.isNone_some, Bool.not_false, cond_true, decide_eq_false h0, cond_false, Option.bind_some, h0, false_and, decide_false]
theorem leq_any (k : Nat) (hL : Lat n r L) (hR : RLat n r R) (a b : Int) : ∃ v, lattice_Lattice_Leq k (some L) a b = some v ∧ ref03_Lattice_Leq k (some R) a b = some v := by
  by_cases ha : 0 ≤ a ∧ a < n
  · by_cases hb : 0 ≤ b ∧ b < n
    · obtain ⟨x, rfl⟩ : ∃ x : Nat, a = (x : Int) := ⟨a.toNat, by omega⟩
      obtain ⟨y, rfl⟩ : ∃ y : Nat, b = (y : Int) := ⟨b.toNat, by omega⟩
      obtain ⟨v, v1, v2⟩ := leq_in k hL (a := x) (b := y) (by omega) (by omega)
      obtain ⟨w, w1, w2⟩ := rleq k hR (a := x) (b := y) (by omega) (by omega)
      have : v = w := by simpa using beq_of_iff v2 w2
      exact ⟨v, v1, this ▸ w1⟩
    · refine ⟨false, ?_, ?_⟩
      · unfold lattice_Lattice_Leq; simp only [is_any k hL, decide_eq_true ha, decide_eq_false hb, Option.bind_some, cond_true, cond_false]
      · unfold ref03_Lattice_Leq; simp only [ris k hR, decide_eq_true ha, decide_eq_false hb, Option.bind_some, cond_true, cond_false]
  · refine ⟨false, ?_, ?_⟩
    · unfold lattice_Lattice_Leq; simp only [is_any k hL, decide_eq_false ha, Option.bind_some, cond_false]
    · unfold ref03_Lattice_Leq; simp only [ris k hR, decide_eq_false ha, Option.bind_some, cond_false]
theorem rleq_out (k : Nat) (hR : RLat n r R) {a b : Int} (h : ¬ (0 ≤ a ∧ a < n) ∨ ¬ (0 ≤ b ∧ b < n)) : ref03_Lattice_Leq k (some R) a b = some false := by
  unfold ref03_Lattice_Leq
  by_cases ha : 0 ≤ a ∧ a < n
  · simp only [ris k hR, decide_eq_true ha, decide_eq_false (h.resolve_left fun h => h ha), Option.bind_some, cond_true, cond_false]
  · simp only [ris k hR, decide_eq_false ha, Option.bind_some, cond_false]
theorem rleq_some (k : Nat) (hR : RLat n r R) (a b : Int) : ∃ v, ref03_Lattice_Leq k (some R) a b = some v := by
  by_cases h : (0 ≤ a ∧ a < n) ∧ (0 ≤ b ∧ b < n)
  · obtain ⟨x, rfl⟩ : ∃ x : Nat, a = (x : Int) := ⟨a.toNat, by omega⟩
    obtain ⟨y, rfl⟩ : ∃ y : Nat, b = (y : Int) := ⟨b.toNat, by omega⟩
    obtain ⟨w, w1, _⟩ := rleq k hR (a := x) (b := y) (by omega) (by omega)
    exact ⟨w, w1⟩
  · exact ⟨false, rleq_out k hR (by omega)⟩
theorem join_any (k : Nat) (hL : Lat n r L) (hR : RLat n r R) (bd : ∀ a b, r a b → b < n) (a b : Int) : ∃ v, lattice_Lattice_Join k (some L) a b = some v ∧ ref03_Lattice_Join k (some R) a b = some v := by
  by_cases h : (0 ≤ a ∧ a < n) ∧ (0 ≤ b ∧ b < n)
  · obtain ⟨x, rfl⟩ : ∃ x : Nat, a = (x : Int) := ⟨a.toNat, by omega⟩
    obtain ⟨y, rfl⟩ : ∃ y : Nat, b = (y : Int) := ⟨b.toNat, by omega⟩
    obtain ⟨c, c1, c2⟩ := join_in k hL (a := x) (b := y) (by omega) (by omega)
    rcases rjoin k hR bd (a := x) (b := y) (by omega) (by omega) with ⟨d, d1, d2⟩ | ⟨_, d2⟩
    · exact ⟨c, c1, by rw [hL.joinu c2 d2]; exact d1⟩
    · exact (d2 ⟨c, c2⟩).elim
  · refine ⟨-1, ?_, ?_⟩
    · unfold lattice_Lattice_Join
      by_cases ha : 0 ≤ a ∧ a < n
      · simp only [is_any k hL, decide_eq_true ha, decide_eq_false (show ¬ (0 ≤ b ∧ b < n) from fun hb => h ⟨ha, hb⟩), Option.bind_some, Bool.not_true, Bool.not_false, cond_true, cond_false]
      · simp only [is_any k hL, decide_eq_false ha, Option.bind_some, Bool.not_false, cond_true]
    · obtain ⟨⟨⟩, h1, _⟩ := forL_end (body := ref03_Lattice_Join.b0 k (some R) a b R) (xs := R.Names) (s := ()) (fun _ _ => True) trivial (by
        rintro j x ⟨⟩ hx _
        refine ⟨(), ?_, trivial⟩
        unfold ref03_Lattice_Join.b0 ref03_Lattice_Join.j1
        by_cases ha : 0 ≤ a ∧ a < n
        · have hb : ¬ (0 ≤ b ∧ b < n) := fun hb => h ⟨ha, hb⟩
          obtain ⟨v, v1⟩ := rleq_some k hR a (j : Int)
          rw [v1, rleq_out k hR (.inl hb)]
          cases v <;> simp only [Option.bind_some, Bool.not_true, Bool.not_false, cond_true, cond_false]
        · simp only [rleq_out k hR (.inl ha), Option.bind_some, Bool.not_false, cond_true])
      unfold ref03_Lattice_Join
      simp only [optE, h1, Option.bind_some, Lr.k]
theorem meet_any (k : Nat) (hL : Lat n r L) (hR : RLat n r R) (a b : Int) : ∃ v, lattice_Lattice_Meet k (some L) a b = some v ∧ ref03_Lattice_Meet k (some R) a b = some v := by
  by_cases h : (0 ≤ a ∧ a < n) ∧ (0 ≤ b ∧ b < n)
  · obtain ⟨x, rfl⟩ : ∃ x : Nat, a = (x : Int) := ⟨a.toNat, by omega⟩
    obtain ⟨y, rfl⟩ : ∃ y : Nat, b = (y : Int) := ⟨b.toNat, by omega⟩
    obtain ⟨c, c1, c2⟩ := meet_in k hL (a := x) (b := y) (by omega) (by omega)
    rcases rmeet k hR (a := x) (b := y) (by omega) (by omega) with ⟨d, d1, d2⟩ | ⟨_, d2⟩
    · exact ⟨c, c1, by rw [hL.meetu c2 d2]; exact d1⟩
    · exact (d2 ⟨c, c2⟩).elim
  · refine ⟨-1, ?_, ?_⟩
    · unfold lattice_Lattice_Meet
      by_cases ha : 0 ≤ a ∧ a < n
      · simp only [is_any k hL, decide_eq_true ha, decide_eq_false (show ¬ (0 ≤ b ∧ b < n) from fun hb => h ⟨ha, hb⟩), Option.bind_some, Bool.not_true, Bool.not_false, cond_true, cond_false]
      · simp only [is_any k hL, decide_eq_false ha, Option.bind_some, Bool.not_false, cond_true]
    · obtain ⟨⟨⟩, h1, _⟩ := forL_end (body := ref03_Lattice_Meet.b0 k (some R) a b R) (xs := R.Names) (s := ()) (fun _ _ => True) trivial (by
        rintro j x ⟨⟩ hx _
        refine ⟨(), ?_, trivial⟩
        unfold ref03_Lattice_Meet.b0 ref03_Lattice_Meet.j1
        by_cases ha : 0 ≤ a ∧ a < n
        · have hb : ¬ (0 ≤ b ∧ b < n) := fun hb => h ⟨ha, hb⟩
          obtain ⟨v, v1⟩ := rleq_some k hR (j : Int) a
          rw [v1, rleq_out k hR (.inr hb)]
          cases v <;> simp only [Option.bind_some, Bool.not_true, Bool.not_false, cond_true, cond_false]
        · simp only [rleq_out k hR (.inr ha), Option.bind_some, Bool.not_false, cond_true])
      unfold ref03_Lattice_Meet
      simp only [optE, h1, Option.bind_some, Lr.k]
end

/-! ### The levels above one: bit by bit, the least first -/
theorem low_form {s i : Nat} (h : s.testBit i = true) (hl : ∀ j, j < i → s.testBit j = false) : ∃ q, s = 2 ^ (i + 1) * q + 2 ^ i := by
  have h1 : s % 2 ^ i = 0 := Nat.eq_of_testBit_eq fun j => by
    rw [Nat.testBit_mod_two_pow, Nat.zero_testBit]
    by_cases hj : j < i
    · simp [hl j hj]
    · simp [hj]
  have h2 : s / 2 ^ i % 2 = 1 := by
    rw [Nat.testBit_eq_decide_div_mod_eq] at h
    simpa using h
  refine ⟨s / 2 ^ i / 2, ?_⟩
  have h3 := Nat.div_add_mod s (2 ^ i)
  have h4 := Nat.div_add_mod (s / 2 ^ i) 2
  rw [Nat.pow_succ, Nat.mul_assoc]
  rw [h1] at h3; rw [h2] at h4
  have : 2 ^ i * (2 * (s / 2 ^ i / 2)) + 2 ^ i = 2 ^ i * (2 * (s / 2 ^ i / 2) + 1) := by rw [Nat.mul_add, Nat.mul_one]
  rw [this, h4]; omega
theorem low_bit {q i : Nat} (j : Nat) : (2 ^ (i + 1) * q + 2 ^ i).testBit j = if j < i + 1 then decide (i = j) else q.testBit (j - (i + 1)) := by
  rw [Nat.testBit_two_pow_mul_add _ (Nat.pow_lt_pow_right (by omega) (by omega))]
  split
  · rw [Nat.testBit_two_pow]
  · rfl
theorem low_pred {q i : Nat} (j : Nat) : (2 ^ (i + 1) * q + 2 ^ i - 1).testBit j = if j < i + 1 then decide (j < i) else q.testBit (j - (i + 1)) := by
  have hp : 0 < 2 ^ i := Nat.pow_pos (by omega)
  have h2 : 2 ^ i < 2 ^ (i + 1) := Nat.pow_lt_pow_right (by omega) (by omega)
  rw [show 2 ^ (i + 1) * q + 2 ^ i - 1 = 2 ^ (i + 1) * q + (2 ^ i - 1) by omega, Nat.testBit_two_pow_mul_add _ (by omega)]
  split
  · rw [Nat.testBit_two_pow_sub_one]
  · rfl
theorem neg_u32 {m : Nat} (h0 : 0 < m) (h : m < 4294967296) : IntKind.wrap .u32 (0 - (m : Int)) = ((4294967296 - m : Nat) : Int) := by
  unfold IntKind.wrap
  simp [IntKind.bits, IntKind.signed]
  omega
theorem low_and {q i : Nat} (hm : 2 ^ (i + 1) * q + 2 ^ i < 4294967296) : (2 ^ (i + 1) * q + 2 ^ i) &&& (4294967296 - (2 ^ (i + 1) * q + 2 ^ i)) = 2 ^ i := by
  have hp : 0 < 2 ^ i := Nat.pow_pos (by omega)
  apply Nat.eq_of_testBit_eq
  intro j
  rw [Nat.testBit_and, show 4294967296 - (2 ^ (i + 1) * q + 2 ^ i) = 2 ^ 32 - ((2 ^ (i + 1) * q + 2 ^ i - 1) + 1) by omega, Nat.testBit_two_pow_sub_succ (show 2 ^ (i + 1) * q + 2 ^ i - 1 < 2 ^ 32 by omega), low_bit, low_pred, Nat.testBit_two_pow]
  by_cases h1 : j < i + 1
  · simp only [h1, if_true]
    by_cases h2 : i = j
    · subst h2
      have : i < 32 := by
        rcases Nat.lt_or_ge i 32 with h | h
        · exact h
        · have := Nat.pow_le_pow_right (n := 2) (by omega) h
          omega
      simp [this]
    · simp [h2]
  · simp only [h1, if_false]
    have : ¬ i = j := by omega
    simp only [this, decide_false]
    cases q.testBit (j - (i + 1)) <;> simp
theorem wrap_mod (x : Nat) : IntKind.wrap .u32 (x : Int) = ((x % 4294967296 : Nat) : Int) := by
  unfold IntKind.wrap
  simp [IntKind.bits, IntKind.signed]
theorem tz_nat : ∀ i : Nat, i < 32 → ((2 ^ i * 125613361) % 4294967296) >>> 27 < 32 ∧ gt0.getD (((2 ^ i * 125613361) % 4294967296) >>> 27) 0 = (i : Int) := by decide +kernel
theorem tz_fin {y z : Nat} (h1 : y < 32) (h2 : gt0.getD y 0 = (z : Int)) (h3 : z < 32) : (((some (y : Int)).bind fun z3 => ((inB 32 z3).bind fun _ => some (w64 (gt0.getD z3.toNat 0)))) : Option Int) = some (z : Int) := by
  have hb : inB 32 (y : Int) = some () := by unfold inB; rw [if_pos (by omega)]
  rw [Option.bind_some, hb, Option.bind_some, Int.toNat_natCast, h2, w64_id (by omega)]
theorem cast_mul (a b : Nat) (c : Int) (h : c = (b : Int)) : ((a : Nat) : Int) * c = ((a * b : Nat) : Int) := by rw [h, Int.natCast_mul]
theorem shr_at {m : Nat} {c : Int} (h : c = ((27 : Nat) : Int)) : shrO .u32 (m : Int) c = some ((m >>> 27 : Nat) : Int) := by rw [h]; exact shr_u32 (by omega)
theorem tz_table (i : Nat) (h : i < 32) : (((shrO .u32 (IntKind.wrap .u32 (((2 ^ i : Nat) : Int) * (125613361 : Int))) (27 : Int)).bind fun z3 => ((inB 32 z3).bind fun _ => some (w64 (gt0.getD z3.toNat 0)))) : Option Int) = some (i : Int) := by
  obtain ⟨h1, h2⟩ := tz_nat i h
  rw [cast_mul _ 125613361 (125613361 : Int) rfl, wrap_mod, shr_at (c := (27 : Int)) rfl]
  exact tz_fin h1 h2 h
theorem tz_low (k : Nat) {q i : Nat} (hm : 2 ^ (i + 1) * q + 2 ^ i < 4294967296) : math_bits_TrailingZeros32 k ((2 ^ (i + 1) * q + 2 ^ i : Nat) : Int) = some (i : Int) := by
  have hp : 0 < 2 ^ i := Nat.pow_pos (by omega)
  have hi : i < 32 := by
    rcases Nat.lt_or_ge i 32 with h | h
    · exact h
    · have := Nat.pow_le_pow_right (n := 2) (by omega) h
      omega
  unfold math_bits_TrailingZeros32
  rw [decide_eq_false (by omega), neg_u32 (by omega) hm, and_u32 hm (by omega), low_and hm, cond_false]
  exact tz_table i hi
theorem clear_low {q i : Nat} (hm : 2 ^ (i + 1) * q + 2 ^ i < 4294967296) : IntKind.wrap .u32 ((BitVec.ofInt (IntKind.bits .u32) ((2 ^ (i + 1) * q + 2 ^ i : Nat) : Int)) &&& (BitVec.ofInt (IntKind.bits .u32) (IntKind.wrap .u32 (((2 ^ (i + 1) * q + 2 ^ i : Nat) : Int) - (1 : Int))))).toNat = ((2 ^ (i + 1) * q : Nat) : Int) := by
  have hp : 0 < 2 ^ i := Nat.pow_pos (by omega)
  have hw : IntKind.wrap .u32 ((2 ^ (i + 1) * q + 2 ^ i - 1 : Nat) : Int) = ((2 ^ (i + 1) * q + 2 ^ i - 1 : Nat) : Int) := wrap_u32 (by omega)
  rw [show ((2 ^ (i + 1) * q + 2 ^ i : Nat) : Int) - (1 : Int) = ((2 ^ (i + 1) * q + 2 ^ i - 1 : Nat) : Int) by omega, hw, and_u32 hm (by omega)]
  congr 1
  apply Nat.eq_of_testBit_eq
  intro j
  rw [Nat.testBit_and, low_bit, low_pred, show 2 ^ (i + 1) * q = 2 ^ (i + 1) * q + 0 by omega, Nat.testBit_two_pow_mul_add _ (Nat.pow_pos (by omega))]
  by_cases h1 : j < i + 1
  · simp only [h1, if_true, Nat.zero_testBit]
    by_cases h2 : i = j
    · subst h2; simp
    · simp [h2]
  · simp only [h1, if_false, Bool.and_self]
/-- the places below o of a number's bits, in order -/
def bitsTo (m o : Nat) : List Int := ((List.range o).filter fun i : Nat => m.testBit i).map fun i : Nat => (i : Int)
theorem bitsTo_succ (m o : Nat) : bitsTo m (o + 1) = bitsTo m o ++ if m.testBit o then [(o : Int)] else [] := by
  unfold bitsTo
  rw [List.range_succ, List.filter_append, List.map_append]
  congr 1
  cases h : m.testBit o <;> simp [h]
theorem bitsTo_skip (m o : Nat) : ∀ d, (∀ j, o ≤ j → j < o + d → m.testBit j = false) → bitsTo m (o + d) = bitsTo m o
  | 0, _ => rfl
  | d + 1, h => by
    rw [← Nat.add_assoc, bitsTo_succ, h (o + d) (by omega) (by omega), bitsTo_skip m o d fun j h1 h2 => h j h1 (by omega)]
    simp
theorem bitsTo_len (m o : Nat) : (bitsTo m o).length ≤ o := by
  unfold bitsTo
  rw [List.length_map]
  exact Nat.le_trans (List.length_filter_le _ _) (by simp)
theorem least_bit {s : Nat} (h : s ≠ 0) : ∃ i, s.testBit i = true ∧ ∀ j, j < i → s.testBit j = false := by
  obtain ⟨i, hi⟩ := Nat.exists_testBit_of_ne_zero h
  induction i using Nat.strongRecOn with
  | _ i ih =>
    by_cases hex : ∃ j, j < i ∧ s.testBit j = true
    · obtain ⟨j, h1, h2⟩ := hex
      exact ih j h1 h2
    · refine ⟨i, hi, fun j hj => ?_⟩
      cases hb : s.testBit j
      · rfl
      · exact (hex ⟨j, hj, hb⟩).elim
theorem above_spec (k : Nat) {n m : Nat} (hn : n ≤ 16) (hk : 65536 ≤ k) (hm : m < 2 ^ n) : ∃ t, whileL (lattice_Lattice_Above.b0 k) k (([] : List Int), (m : Int)) = some (.go (bitsTo m n, t)) := by
  have hm16 : m < 65536 := Nat.lt_of_lt_of_le hm (Nat.pow_le_pow_right (by omega) hn)
  obtain ⟨o, h1, t, rfl⟩ := whileL_spec (body := lattice_Lattice_Above.b0 k)
    (fun x => ∃ o s : Nat, o ≤ n ∧ x = (bitsTo m o, (s : Int)) ∧ s ≤ m ∧ ∀ j, s.testBit j = (decide (o ≤ j) && m.testBit j)) (fun y => ∃ t, y = .go (bitsTo m n, t)) (fun x => x.2.toNat) (by
      rintro x ⟨o, s, ho, rfl, hs, hb⟩
      unfold lattice_Lattice_Above.b0
      by_cases h0 : s = 0
      · refine .inr (.inl ⟨_, ?_, 0, rfl⟩)
        have hsk := bitsTo_skip m o (n - o) (fun j h1 h2 => by
          have := hb j
          rw [h0, Nat.zero_testBit, decide_eq_true h1, Bool.true_and] at this
          exact this.symm)
        rw [show o + (n - o) = n by omega] at hsk
        rw [hsk]
        simp only [decide_eq_true (show ((s : Nat) : Int) = 0 by omega), Bool.not_true, cond_false]
        rw [h0]; rfl
      · obtain ⟨i, i1, i2⟩ := least_bit h0
        obtain ⟨q, rfl⟩ := low_form i1 i2
        have hoi : o ≤ i ∧ m.testBit i = true := by
          have := hb i
          rw [i1] at this
          simpa using this.symm
        have hin : i < n := by
          rcases Nat.lt_or_ge i n with h | h
          · exact h
          · have := Nat.testBit_lt_two_pow (Nat.lt_of_lt_of_le hm (Nat.pow_le_pow_right (by omega) h))
            rw [this] at hoi; cases hoi.2
        have hp : 0 < 2 ^ i := Nat.pow_pos (by omega)
        refine .inl ⟨(bitsTo m (i + 1), ((2 ^ (i + 1) * q : Nat) : Int)), ?_, ⟨i + 1, 2 ^ (i + 1) * q, by omega, rfl, by omega, fun j => ?_⟩, ?_⟩
        · have hsk := bitsTo_skip m o (i - o) (fun j h1 h2 => by
            have := hb j
            rw [i2 j (by omega), decide_eq_true h1, Bool.true_and] at this
            exact this.symm)
          rw [show o + (i - o) = i by omega] at hsk
          have hlen := bitsTo_len m o
          rw [bitsTo_succ, hoi.2, hsk, if_pos rfl]
          simp only [decide_eq_false (show ¬ ((2 ^ (i + 1) * q + 2 ^ i : Nat) : Int) = 0 by omega), Bool.not_false, cond_true, tz_low k (q := q) (i := i) (by omega), Option.bind_some, List.length_singleton, lim_ok (show (bitsTo m o).length + 1 ≤ 4294967296 by omega), clear_low (q := q) (i := i) (by omega)]
        · have h3 := hb j
          rw [low_bit] at h3
          rw [show 2 ^ (i + 1) * q = 2 ^ (i + 1) * q + 0 by omega, Nat.testBit_two_pow_mul_add _ (Nat.pow_pos (by omega))]
          by_cases h4 : j < i + 1
          · simp only [h4, if_true, Nat.zero_testBit, decide_eq_false (show ¬ i + 1 ≤ j by omega), Bool.false_and]
          · simp only [h4, if_false] at h3 ⊢
            rw [h3, decide_eq_true (show o ≤ j by omega), decide_eq_true (show i + 1 ≤ j by omega)]
        · show (((2 ^ (i + 1) * q : Nat) : Int)).toNat < (((2 ^ (i + 1) * q + 2 ^ i : Nat) : Int)).toNat
          omega) k ([], (m : Int)) ⟨0, m, Nat.zero_le _, rfl, Nat.le_refl _, by simp⟩ (by show (m : Int).toNat < k; omega)
  exact ⟨t, h1⟩
theorem above_both (k : Nat) (hk : 65536 ≤ k) {n : Nat} {r : Nat → Nat → Prop} {L : Tlattice_Lattice} {R : Tref03_Lattice} (hL : Lat n r L) (hR : RLat n r R) (a : Int) : ∃ l, lattice_Lattice_Above k (some L) a = some l ∧ ref03_Lattice_Above k (some R) a = some l := by
  have hn := hL.small
  by_cases ha : 0 ≤ a ∧ a < n
  · obtain ⟨x, rfl⟩ : ∃ x : Nat, a = (x : Int) := ⟨a.toNat, by omega⟩
    obtain ⟨m, m1, m2, m3⟩ := hL.up.bits x (by omega)
    obtain ⟨t, t1⟩ := above_spec k hn hk m2
    refine ⟨bitsTo m n, ?_, ?_⟩
    · unfold lattice_Lattice_Above
      simp only [is_any k hL, decide_eq_true ha, Option.bind_some, Bool.not_true, cond_false, optE, getO_nat, m1, t1, Lr.k]
    · obtain ⟨s, h1, rfl⟩ := forL_end (body := ref03_Lattice_Above.b0 k (some R) (x : Int)) (xs := R.Names) (s := ([] : List Int)) (fun i s => s = bitsTo m i) rfl (by
        rintro j y s hy rfl
        have hj : j < n := by have := (List.getElem?_eq_some_iff.1 hy).1; rw [hR.names] at this; exact this
        obtain ⟨v, v1, v2⟩ := rleq k hR (a := x) (b := j) (by omega) hj
        have hlen := bitsTo_len m j
        refine ⟨_, ?_, rfl⟩
        unfold ref03_Lattice_Above.b0
        rw [bitsTo_succ]
        have : m.testBit j = v := by
          have := beq_of_iff (m3 j) v2
          simpa using this
        rw [this, v1]
        cases v with
        | false => simp only [Option.bind_some, cond_false, if_neg (show ¬ false = true by decide), List.append_nil]
        | true => simp only [Option.bind_some, cond_true, if_true, List.length_singleton, lim_ok (show (bitsTo m j).length + 1 ≤ 4294967296 by omega)])
      unfold ref03_Lattice_Above
      simp only [optE, h1, hR.names, Option.bind_some, Lr.k]
  · refine ⟨[], ?_, ?_⟩
    · unfold lattice_Lattice_Above
      simp only [is_any k hL, decide_eq_false ha, Option.bind_some, Bool.not_false, cond_true]
    · obtain ⟨s, h1, rfl⟩ := forL_end (body := ref03_Lattice_Above.b0 k (some R) a) (xs := R.Names) (s := ([] : List Int)) (fun i s => s = []) rfl (by
        rintro j y s hy rfl
        refine ⟨[], ?_, rfl⟩
        unfold ref03_Lattice_Above.b0
        simp only [rleq_out k hR (.inl ha), Option.bind_some, cond_false])
      unfold ref03_Lattice_Above
      simp only [optE, h1, Option.bind_some, Lr.k]
theorem ints_same (k : Nat) (l : List Int) : ref03_Ints k l l = some true := by
  unfold ref03_Ints
  obtain ⟨⟨⟩, h1, _⟩ := forL_end (body := ref03_Ints.b0 k l) (xs := l) (s := ()) (fun _ _ => True) trivial (by
    rintro j x ⟨⟩ hx _
    refine ⟨(), ?_, trivial⟩
    unfold ref03_Ints.b0
    simp only [getO_nat, hx, Option.bind_some, decide_true, Bool.not_true, cond_false])
  simp only [decide_true, Bool.not_true, cond_false, h1, Option.bind_some, Lr.k]
theorem LatticeTables_law (names : List ByteArray) (E : List TPair) (a b : Int) : ∃ k, law03_LatticeTables k names E a b = some true := by
  refine ⟨1048577, ?_⟩
  unfold law03_LatticeTables
  obtain ⟨c, h1, h2⟩ := few_spec 1048577 names E
  have hal := alive_up 1048577 (by omega)
  simp only [h1, Option.bind_some]
  cases c with
  | false => simp only [Bool.not_false, cond_true, Option.bind_some, hal]
  | true =>
    simp only [Bool.not_true, cond_false]
    rcases news 1048577 (Nat.le_refl _) names E with ⟨L, R, g1, g2, hL, hR, g3, g4, hf⟩ | ⟨e, he, g1, g2⟩
    · have bd : ∀ a b, Way names E a b → b < names.length := fun a b h => (way_lt h).2
      have two : ∀ x y : Int, ∃ u v w, lattice_Lattice_Leq 1048577 (some L) x y = some u ∧ ref03_Lattice_Leq 1048577 (some R) x y = some u ∧ lattice_Lattice_Join 1048577 (some L) x y = some v ∧ ref03_Lattice_Join 1048577 (some R) x y = some v ∧ lattice_Lattice_Meet 1048577 (some L) x y = some w ∧ ref03_Lattice_Meet 1048577 (some R) x y = some w := fun x y => by
        obtain ⟨u, u1, u2⟩ := leq_any 1048577 hL hR x y
        obtain ⟨v, v1, v2⟩ := join_any 1048577 hL hR bd x y
        obtain ⟨w, w1, w2⟩ := meet_any 1048577 hL hR x y
        exact ⟨u, v, w, u1, u2, v1, v2, w1, w2⟩
      obtain ⟨u, v, w, u1, u2, v1, v2, w1, w2⟩ := two a b
      obtain ⟨l, l1, l2⟩ := above_both 1048577 (by omega) hL hR a
      obtain ⟨⟨⟩, q1, _⟩ := forL_end (body := law03_LatticeTables.b0 1048577 (some L, 0) (some R, 0) names) (xs := names) (s := ()) (fun _ _ => True) trivial (by
        rintro i x ⟨⟩ hx _
        obtain ⟨⟨⟩, q1, _⟩ := forL_end (body := law03_LatticeTables.b1 1048577 (some L, 0) i (some R, 0)) (xs := names) (s := ()) (fun _ _ => True) trivial (by
          rintro j x ⟨⟩ hx _
          obtain ⟨u, v, w, u1, u2, v1, v2, w1, w2⟩ := two (i : Int) (j : Int)
          refine ⟨(), ?_, trivial⟩
          unfold law03_LatticeTables.b1
          simp only [u1, u2, v1, v2, w1, w2, Option.bind_some, beq_self_eq_true, decide_true, Bool.not_true, cond_false])
        refine ⟨(), ?_, trivial⟩
        unfold law03_LatticeTables.b0
        simp only [q1, Option.bind_some, Lr.k])
      simp only [g1, g2, u1, u2, v1, v2, w1, w2, l1, l2, ints_same, q1, Option.bind_some, beq_self_eq_true, decide_true, Bool.not_true, cond_false, Lr.k, hal]
    · simp only [g1, g2, Option.bind_some, decide_eq_false he, Bool.not_false, cond_true, decide_true, hal]
theorem LatticeNil_law (x : ByteArray) (a b : Int) : ∃ k, law03_LatticeNil k x a b = some true := by
  refine ⟨4, ?_⟩
  have his : ∀ c, lattice_Lattice_is 4 none c = some false := fun c => rfl
  unfold law03_LatticeNil lattice_Lattice_Find lattice_Lattice_Levels lattice_Lattice_Above lattice_Lattice_Leq lattice_Lattice_Join lattice_Lattice_Meet lattice_Lattice_Bottom lattice_Lattice_Top
  simp only [his, Option.isNone_none, cond_true, cond_false, Option.bind_some, Bool.not_false, List.length_nil, alive4, decide_true, show w64 (((0 : Nat) : Int) + ((0 : Nat) : Int)) = 0 from rfl]
end Go.Proofs.YtliaopbgkcdibaaDoor
