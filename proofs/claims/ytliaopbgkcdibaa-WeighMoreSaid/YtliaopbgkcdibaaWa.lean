/- Whole numbers as floats: sums, products, order, made whole. Plain Lean; no program in sight. -/
import Derived.Test.YtliaopbgkcdibaaCxF
set_option linter.unusedVariables false
set_option linter.unusedSimpArgs false
namespace Go.Proofs.Ytliaopbgkcdibaa
open Ieee
theorem cmpN_lt {a b : Nat} (h : a < b) : compare a b = .lt := by show compareOfLessAndEq a b = _; unfold compareOfLessAndEq; rw [if_pos h]
theorem cmpN_gt {a b : Nat} (h : b < a) : compare a b = .gt := by show compareOfLessAndEq a b = _; unfold compareOfLessAndEq; rw [if_neg (by omega), if_neg (by omega)]
theorem cmpI_lt {a b : Int} (h : a < b) : compare a b = .lt := by show compareOfLessAndEq a b = _; unfold compareOfLessAndEq; rw [if_pos h]
theorem cmpI_gt {a b : Int} (h : b < a) : compare a b = .gt := by show compareOfLessAndEq a b = _; unfold compareOfLessAndEq; rw [if_neg (by omega), if_neg (by omega)]
theorem log2_scale {N : Nat} (h : 0 < N) (j : Nat) : (N * 2 ^ j).log2 = N.log2 + j := by
  have hp : 0 < 2 ^ j := Nat.pow_pos (by omega)
  have h1 : N * 2 ^ j ≠ 0 := Nat.mul_ne_zero (by omega) (by omega)
  apply Nat.le_antisymm
  · have : N * 2 ^ j < 2 ^ (N.log2 + 1 + j) := by
      rw [Nat.pow_add]
      exact Nat.mul_lt_mul_of_pos_right Nat.lt_log2_self hp
    have := (Nat.log2_lt h1).2 this
    omega
  · apply (Nat.le_log2 h1).2
    rw [Nat.pow_add]
    exact Nat.mul_le_mul_right _ (Nat.log2_self_le (by omega))
/-- a whole number's bits -/
def F (N : Nat) : Nat := double.write (.number false N 0)
theorem fof (N : Nat) : fofInt (N : Int) = F N := by
  unfold fofInt F FloatKind.encode
  rw [decide_eq_false (by omega)]
  rfl
theorem cut_exact (way : Toward) (hw : way = .even ∨ way = .zero) (K d : Nat) (hd : d ≤ (K * 2 ^ d).log2 + 2) : way.cut false (K * 2 ^ d) d = K := by
  have hp : 0 < 2 ^ d := Nat.pow_pos (by omega)
  unfold Toward.cut
  simp only [Nat.min_eq_left hd, Nat.shiftLeft_eq, Nat.one_mul, Nat.mul_div_cancel _ hp, Nat.mul_mod_left]
  rcases hw with rfl | rfl
  · simp only [Nat.mul_zero, Nat.not_lt_zero, decide_false, Bool.false_or]
    have : (2 ^ d == 0) = false := by simp
    rw [this]; simp
  · simp
theorem leastPlace_double : double.leastPlace = -1074 := by decide
theorem binade_double : double.binade = 2 ^ 52 := by decide
theorem nearest_scale {N : Nat} (h0 : 0 < N) (h : N < 2 ^ 53) (j : Nat) : double.nearest false (N * 2 ^ j) (-(j : Int)) = (N.log2 + 1022) * 2 ^ 52 + N * 2 ^ (52 - N.log2) := by
  have hlog : N.log2 ≤ 52 := by have := (Nat.log2_lt (by omega)).2 h; omega
  have hne : N * 2 ^ j ≠ 0 := Nat.mul_ne_zero (by omega) (Nat.ne_of_gt (Nat.pow_pos (by omega)))
  unfold Format.nearest
  rw [if_neg hne]
  simp only [log2_scale h0, leastPlace_double, binade_double]
  have e1 : (-(j : Int) + ((N.log2 + j : Nat) : Int) - (double.fractionBits : Int)) = (N.log2 : Int) - 52 := by
    show -(j : Int) + ((N.log2 + j : Nat) : Int) - 52 = _; omega
  rw [e1, Int.max_eq_left (by omega)]
  have hK : Toward.even.cut false ((N * 2 ^ j) <<< (-(j : Int) - ((N.log2 : Int) - 52)).toNat) ((N.log2 : Int) - 52 - -(j : Int)).toNat = N * 2 ^ (52 - N.log2) := by
    rcases Nat.le_total j (52 - N.log2) with hj | hj
    · rw [show ((N.log2 : Int) - 52 - -(j : Int)).toNat = 0 by omega, show (-(j : Int) - ((N.log2 : Int) - 52)).toNat = 52 - N.log2 - j by omega, Nat.shiftLeft_eq, Nat.mul_assoc, ← Nat.pow_add, show j + (52 - N.log2 - j) = 52 - N.log2 by omega]
      have := cut_exact .even (.inl rfl) (N * 2 ^ (52 - N.log2)) 0 (by omega)
      simpa using this
    · rw [show (-(j : Int) - ((N.log2 : Int) - 52)).toNat = 0 by omega, Nat.shiftLeft_zero, show ((N.log2 : Int) - 52 - -(j : Int)).toNat = j - (52 - N.log2) by omega]
      have e2 : N * 2 ^ j = N * 2 ^ (52 - N.log2) * 2 ^ (j - (52 - N.log2)) := by
        rw [Nat.mul_assoc, ← Nat.pow_add, show 52 - N.log2 + (j - (52 - N.log2)) = j by omega]
      rw [e2]
      apply cut_exact .even (.inl rfl)
      rw [← e2, log2_scale h0]; omega
  rw [hK]
  have hKlt : N * 2 ^ (52 - N.log2) < 2 ^ 53 := by
    have : N * 2 ^ (52 - N.log2) < 2 ^ (N.log2 + 1) * 2 ^ (52 - N.log2) := Nat.mul_lt_mul_of_pos_right Nat.lt_log2_self (Nat.pow_pos (by omega))
    rw [← Nat.pow_add, show N.log2 + 1 + (52 - N.log2) = 53 by omega] at this
    exact this
  have hinf : double.infRung = 2047 * 2 ^ 52 := by decide
  unfold Format.word
  rw [if_neg (by simp), hinf, show ((N.log2 : Int) - 52 - -1074).toNat = N.log2 + 1022 by omega]
  exact Nat.min_eq_left (by omega)
theorem F_eq {N : Nat} (h0 : 0 < N) (h : N < 2 ^ 53) : F N = (N.log2 + 1022) * 2 ^ 52 + N * 2 ^ (52 - N.log2) := by
  have := nearest_scale h0 h 0
  rw [Nat.pow_zero, Nat.mul_one] at this
  exact this
theorem write_scale {N : Nat} (h : N < 2 ^ 53) (j : Nat) : double.write (.number false (N * 2 ^ j) (-(j : Int))) = F N := by
  rcases Nat.eq_zero_or_pos N with rfl | h0
  · rw [Nat.zero_mul]
    show double.nearest false 0 (-(j : Int)) = double.nearest false 0 0
    unfold Format.nearest
    rw [if_pos rfl, if_pos rfl]
  · rw [F_eq h0 h]; exact nearest_scale h0 h j
theorem F_zero : F 0 = 0 := rfl
theorem F_most : F 1099511627776 = 4787326403894837248 := by decide +kernel
theorem read_F {N : Nat} (h : N < 2 ^ 53) : ∃ p : Nat, double.read (F N) = .number false (N * 2 ^ p) (-(p : Int)) ∧ (N = 0 ∨ p ≤ 52) := by
  rcases Nat.eq_zero_or_pos N with rfl | h0
  · exact ⟨1074, by decide +kernel, .inl rfl⟩
  · have hlog : N.log2 ≤ 52 := by have := (Nat.log2_lt (by omega)).2 h; omega
    have h1 : 2 ^ 52 ≤ N * 2 ^ (52 - N.log2) := by
      have : 2 ^ N.log2 * 2 ^ (52 - N.log2) ≤ N * 2 ^ (52 - N.log2) := Nat.mul_le_mul_right _ (Nat.log2_self_le (by omega))
      rw [← Nat.pow_add, show N.log2 + (52 - N.log2) = 52 by omega] at this
      exact this
    have h2 : N * 2 ^ (52 - N.log2) < 2 ^ 53 := by
      have : N * 2 ^ (52 - N.log2) < 2 ^ (N.log2 + 1) * 2 ^ (52 - N.log2) := Nat.mul_lt_mul_of_pos_right Nat.lt_log2_self (Nat.pow_pos (by omega))
      rw [← Nat.pow_add, show N.log2 + 1 + (52 - N.log2) = 53 by omega] at this
      exact this
    refine ⟨52 - N.log2, ?_, .inr (by omega)⟩
    rw [F_eq h0 h]
    generalize N * 2 ^ (52 - N.log2) = K at h1 h2 ⊢
    unfold Format.read
    have hs : double.signWeight = 2 ^ 63 := by decide
    have hinf : double.infRung = 2047 * 2 ^ 52 := by decide
    have e1 : ((N.log2 + 1022) * 2 ^ 52 + K) / 2 ^ 63 = 0 := Nat.div_eq_of_lt (by omega)
    have e2 : ((N.log2 + 1022) * 2 ^ 52 + K) % 2 ^ 63 = (N.log2 + 1022) * 2 ^ 52 + K := Nat.mod_eq_of_lt (by omega)
    have e3 : ((N.log2 + 1022) * 2 ^ 52 + K) / 2 ^ 52 = N.log2 + 1023 := by omega
    have e4 : ((N.log2 + 1022) * 2 ^ 52 + K) % 2 ^ 52 = K - 2 ^ 52 := by omega
    simp only [hs, hinf, binade_double, leastPlace_double, e1, e2, e3, e4]
    rw [if_neg (by omega), if_pos (by omega)]
    have e5 : 2 ^ 52 + (K - 2 ^ 52) = K := by omega
    have e6 : (-1074 : Int) + ((N.log2 + 1023 - 1 : Nat) : Int) = -((52 - N.log2 : Nat) : Int) := by omega
    rw [e5, e6]
    rfl
theorem signed_pos (m u : Nat) : signed false m u = ((m * 2 ^ u : Nat) : Int) := by
  unfold signed
  rw [if_neg (by simp), Nat.shiftLeft_eq]
theorem mul_up {N p q : Nat} (h : p ≤ q) : N * 2 ^ p * 2 ^ (q - p) = N * 2 ^ q := by
  rw [Nat.mul_assoc, ← Nat.pow_add, show p + (q - p) = q by omega]
theorem order_F {N M : Nat} (hN : N < 2 ^ 53) (hM : M < 2 ^ 53) : FloatKind.f64.format.order (F N) (F M) = some (compare N M) := by
  obtain ⟨p, hp, _⟩ := read_F hN
  obtain ⟨q, hq, _⟩ := read_F hM
  show ((double.read (F N)).order (double.read (F M))) = _
  rw [hp, hq]
  unfold Datum.order
  simp only [signed_pos]
  have hbase : min (-(p : Int)) (-(q : Int)) = -((max p q : Nat) : Int) := by omega
  rw [hbase, show (-(p : Int) - -((max p q : Nat) : Int)).toNat = max p q - p by omega, show (-(q : Int) - -((max p q : Nat) : Int)).toNat = max p q - q by omega, mul_up (by omega), mul_up (by omega)]
  have hpos : 0 < 2 ^ max p q := Nat.pow_pos (by omega)
  congr 1
  rcases Nat.lt_trichotomy N M with h | h | h
  · rw [cmpN_lt h, cmpI_lt (by have := Nat.mul_lt_mul_of_pos_right h hpos; omega)]
  · subst h
    simp
  · rw [cmpN_gt h, cmpI_gt (by have := Nat.mul_lt_mul_of_pos_right h hpos; omega)]
theorem fadd_F {N M : Nat} (hN : N < 2 ^ 52) (hM : M < 2 ^ 52) : fadd (F N) (F M) = some (F (N + M)) := by
  obtain ⟨p, hp, _⟩ := read_F (N := N) (by omega)
  obtain ⟨q, hq, _⟩ := read_F (N := M) (by omega)
  unfold fadd
  show ((double.read (F N)).sum (double.read (F M))).map double.write = _
  rw [hp, hq]
  unfold Datum.sum
  simp only [signed_pos]
  have hbase : min (-(p : Int)) (-(q : Int)) = -((max p q : Nat) : Int) := by omega
  rw [hbase, show (-(p : Int) - -((max p q : Nat) : Int)).toNat = max p q - p by omega, show (-(q : Int) - -((max p q : Nat) : Int)).toNat = max p q - q by omega, mul_up (by omega), mul_up (by omega)]
  have e1 : ((N * 2 ^ max p q : Nat) : Int) + ((M * 2 ^ max p q : Nat) : Int) = (((N + M) * 2 ^ max p q : Nat) : Int) := by rw [Nat.add_mul]; omega
  rw [e1, Int.natAbs_natCast]
  have e2 : (if (((N + M) * 2 ^ max p q : Nat) : Int) = 0 then false && false else decide ((((N + M) * 2 ^ max p q : Nat) : Int) < 0)) = false := by
    split
    · rfl
    · exact decide_eq_false (by omega)
  rw [e2, Option.map_some, write_scale (by omega)]
/-- a product that is too great is greater than the most -/
theorem read_big {N : Nat} (h : 2 ^ 53 ≤ N) (h2 : N < 2 ^ 90) (j : Nat) : ∃ m pl, double.read (double.write (.number false (N * 2 ^ j) (-(j : Int)))) = .number false m pl ∧ 2 ^ 52 ≤ m ∧ 1 ≤ pl := by
  have h0 : 0 < N := Nat.lt_of_lt_of_le (by decide) h
  have hl1 : 53 ≤ N.log2 := (Nat.le_log2 (by omega)).2 h
  have hl2 : N.log2 < 90 := (Nat.log2_lt (by omega)).2 h2
  have hne : N * 2 ^ j ≠ 0 := Nat.mul_ne_zero (by omega) (Nat.ne_of_gt (Nat.pow_pos (by omega)))
  obtain ⟨K, hK, hK1, hK2⟩ : ∃ K, double.write (.number false (N * 2 ^ j) (-(j : Int))) = (N.log2 + 1022) * 2 ^ 52 + K ∧ 2 ^ 52 ≤ K ∧ K ≤ 2 ^ 53 := by
    show ∃ K, double.nearest false (N * 2 ^ j) (-(j : Int)) = _ ∧ _ ∧ _
    unfold Format.nearest
    rw [if_neg hne]
    simp only [log2_scale h0, leastPlace_double, binade_double]
    have e1 : (-(j : Int) + ((N.log2 + j : Nat) : Int) - (double.fractionBits : Int)) = (N.log2 : Int) - 52 := by
      show -(j : Int) + ((N.log2 + j : Nat) : Int) - 52 = _; omega
    rw [e1, Int.max_eq_left (by omega), show (-(j : Int) - ((N.log2 : Int) - 52)).toNat = 0 by omega, Nat.shiftLeft_zero, show ((N.log2 : Int) - 52 - -(j : Int)).toNat = N.log2 - 52 + j by omega]
    have hinf : double.infRung = 2047 * 2 ^ 52 := by decide
    unfold Format.word
    rw [if_neg (by simp), hinf, show ((N.log2 : Int) - 52 - -1074).toNat = N.log2 + 1022 by omega]
    have hlow1 : 2 ^ 52 ≤ (N * 2 ^ j) / 2 ^ (N.log2 - 52 + j) := by
      rw [Nat.le_div_iff_mul_le (Nat.pow_pos (by omega)), ← Nat.pow_add, show 52 + (N.log2 - 52 + j) = N.log2 + j by omega, Nat.pow_add]
      exact Nat.mul_le_mul_right _ (Nat.log2_self_le (by omega))
    have hlow2 : (N * 2 ^ j) / 2 ^ (N.log2 - 52 + j) < 2 ^ 53 := by
      rw [Nat.div_lt_iff_lt_mul (Nat.pow_pos (by omega)), ← Nat.pow_add, show 53 + (N.log2 - 52 + j) = N.log2 + 1 + j by omega, Nat.pow_add]
      exact Nat.mul_lt_mul_of_pos_right Nat.lt_log2_self (Nat.pow_pos (by omega))
    have hcut : ∃ b : Bool, Toward.even.cut false (N * 2 ^ j) (N.log2 - 52 + j) = (N * 2 ^ j) / 2 ^ (N.log2 - 52 + j) + b.toNat := by
      unfold Toward.cut
      simp only [log2_scale h0, Nat.min_eq_left (show N.log2 - 52 + j ≤ N.log2 + j + 2 by omega), Nat.shiftLeft_eq, Nat.one_mul]
      exact ⟨_, rfl⟩
    obtain ⟨b, hb⟩ := hcut
    have hb1 : b.toNat ≤ 1 := by cases b <;> simp
    rw [hb]
    generalize (N * 2 ^ j) / 2 ^ (N.log2 - 52 + j) = low at hlow1 hlow2 ⊢
    exact ⟨low + b.toNat, Nat.min_eq_left (by omega), by omega, by omega⟩
  rw [hK]
  unfold Format.read
  have hs : double.signWeight = 2 ^ 63 := by decide
  have hinf : double.infRung = 2047 * 2 ^ 52 := by decide
  have e1 : ((N.log2 + 1022) * 2 ^ 52 + K) / 2 ^ 63 = 0 := Nat.div_eq_of_lt (by omega)
  have e2 : ((N.log2 + 1022) * 2 ^ 52 + K) % 2 ^ 63 = (N.log2 + 1022) * 2 ^ 52 + K := Nat.mod_eq_of_lt (by omega)
  simp only [hs, hinf, binade_double, leastPlace_double, e1, e2]
  rw [if_neg (by omega), if_pos (by omega)]
  exact ⟨_, _, rfl, by omega, by omega⟩
theorem fmul_F {N M : Nat} (hN : N < 2 ^ 45) (hM : M < 2 ^ 45) : ∃ z, fmul (F N) (F M) = some z ∧ ((N * M < 2 ^ 53 ∧ z = F (N * M)) ∨ (2 ^ 53 ≤ N * M ∧ FloatKind.f64.format.order z (F 1099511627776) = some .gt)) := by
  obtain ⟨p, hp, _⟩ := read_F (N := N) (by omega)
  obtain ⟨q, hq, _⟩ := read_F (N := M) (by omega)
  have e0 : fmul (F N) (F M) = some (double.write (.number false (N * M * 2 ^ (p + q)) (-((p + q : Nat) : Int)))) := by
    unfold fmul
    show ((double.read (F N)).product (double.read (F M))).map double.write = _
    rw [hp, hq]
    unfold Datum.product
    simp only [Option.map_some, Bool.xor_self]
    rw [show N * 2 ^ p * (M * 2 ^ q) = N * M * 2 ^ (p + q) by rw [Nat.pow_add]; simp only [Nat.mul_assoc, Nat.mul_left_comm], show (-(p : Int) + -(q : Int)) = -((p + q : Nat) : Int) by omega]
  refine ⟨_, e0, ?_⟩
  by_cases h : N * M < 2 ^ 53
  · exact .inl ⟨h, write_scale h _⟩
  · refine .inr ⟨by omega, ?_⟩
    have h90 : N * M < 2 ^ 90 := by
      have : N * M ≤ 2 ^ 45 * M := Nat.mul_le_mul_right _ (by omega)
      have : 2 ^ 45 * M < 2 ^ 45 * 2 ^ 45 := Nat.mul_lt_mul_of_pos_left hM (by decide)
      have : (2 : Nat) ^ 45 * 2 ^ 45 = 2 ^ 90 := by decide
      omega
    obtain ⟨m, pl, h1, h2, h3⟩ := read_big (by omega) h90 (p + q)
    obtain ⟨c, hc, hc2⟩ := read_F (N := 1099511627776) (by decide)
    show ((double.read _).order (double.read (F 1099511627776))) = _
    rw [h1, hc]
    unfold Datum.order
    simp only [signed_pos]
    rw [show min pl (-(c : Int)) = -(c : Int) by omega, show (-(c : Int) - -(c : Int)).toNat = 0 by omega, Nat.pow_zero, Nat.mul_one]
    congr 1
    apply cmpI_gt
    have hu : c + 1 ≤ (pl - -(c : Int)).toNat := by omega
    have h4 : m * 2 ^ (c + 1) ≤ m * 2 ^ (pl - -(c : Int)).toNat := Nat.mul_le_mul_left _ (Nat.pow_le_pow_right (by omega) hu)
    have h5 : 2 ^ 52 * 2 ^ (c + 1) ≤ m * 2 ^ (c + 1) := Nat.mul_le_mul_right _ h2
    have h6 : 0 < 2 ^ c := Nat.pow_pos (by omega)
    have h7 : (2 : Nat) ^ (c + 1) = 2 ^ c * 2 := Nat.pow_succ ..
    have h8 : 1099511627776 * 2 ^ c < 2 ^ 52 * 2 ^ (c + 1) := by rw [h7]; omega
    omega
theorem toInt_F {N : Nat} (h : N < 2 ^ 53) : (FloatKind.f64.decode (F N)).integral .zero = .number false N 0 := by
  obtain ⟨p, hp, hp2⟩ := read_F h
  show (double.read (F N)).integral .zero = _
  rw [hp]
  unfold Datum.integral
  simp only
  rw [show (-(p : Int)).toNat = 0 by omega, Nat.shiftLeft_zero, show (- -(p : Int)).toNat = p by omega]
  rcases Nat.eq_zero_or_pos N with rfl | h0
  · rw [Nat.zero_mul]
    unfold Toward.cut
    simp
  · rw [cut_exact .zero (.inr rfl) N p (by rw [log2_scale h0]; omega)]
theorem ftoInt_F {N : Nat} (h : N < 2 ^ 53) : ftoInt (F N) = some (N : Int) := by
  unfold ftoInt Datum.toInt
  rw [toInt_F h]
  simp only [signed_pos, Nat.pow_zero, Nat.mul_one]
  rw [if_pos ⟨by show (-9223372036854775808 : Int) ≤ _; omega, by show _ ≤ (9223372036854775807 : Int); omega⟩]
theorem ftrunc_F {N : Nat} (h : N < 2 ^ 53) : ftrunc (F N) = some (F N) := by
  have h1 := toInt_F h
  obtain ⟨p, hp, hp2⟩ := read_F h
  have hd : FloatKind.f64.decode (F N) = .number false (N * 2 ^ p) (-(p : Int)) := hp
  unfold ftrunc
  rw [hd] at h1 ⊢
  simp only [h1]
  rfl
theorem fle_F {N M : Nat} (hN : N < 2 ^ 53) (hM : M < 2 ^ 53) : fle (F N) (F M) = decide (N ≤ M) := by
  unfold fle
  rw [order_F hN hM]
  rcases Nat.lt_trichotomy N M with h | h | h
  · rw [cmpN_lt h, decide_eq_true (by omega)]; rfl
  · subst h; simp
  · rw [cmpN_gt h, decide_eq_false (by omega)]; rfl
theorem fge_F {N M : Nat} (hN : N < 2 ^ 53) (hM : M < 2 ^ 53) : fge (F N) (F M) = decide (M ≤ N) := by
  unfold fge
  rw [order_F hN hM]
  rcases Nat.lt_trichotomy N M with h | h | h
  · rw [cmpN_lt h, decide_eq_false (by omega)]; rfl
  · subst h; simp
  · rw [cmpN_gt h, decide_eq_true (by omega)]; rfl
theorem feq_F {N M : Nat} (hN : N < 2 ^ 53) (hM : M < 2 ^ 53) : feq (F N) (F M) = decide (N = M) := by
  unfold feq
  rw [order_F hN hM]
  rcases Nat.lt_trichotomy N M with h | h | h
  · rw [cmpN_lt h, decide_eq_false (by omega)]; rfl
  · subst h; simp
  · rw [cmpN_gt h, decide_eq_false (by omega)]; rfl
theorem fmin_F {N M : Nat} (hN : N < 2 ^ 53) (hM : M < 2 ^ 53) : fmin (F N) (F M) = some (F (min N M)) := by
  unfold fmin
  rw [order_F hN hM]
  rcases Nat.lt_trichotomy N M with h | h | h
  · rw [cmpN_lt h, Nat.min_eq_left (by omega)]
  · subst h; simp
  · rw [cmpN_gt h, Nat.min_eq_right (by omega)]
theorem fmax_F {N M : Nat} (hN : N < 2 ^ 53) (hM : M < 2 ^ 53) : fmax (F N) (F M) = some (F (max N M)) := by
  unfold fmax
  rw [order_F hN hM]
  rcases Nat.lt_trichotomy N M with h | h | h
  · rw [cmpN_lt h, Nat.max_eq_right (by omega)]
  · subst h; simp
  · rw [cmpN_gt h, Nat.max_eq_left (by omega)]
end Go.Proofs.Ytliaopbgkcdibaa
