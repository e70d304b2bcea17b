/- Plain words for the laws: loops that keep something, bits of 32-bit numbers. No program in sight. -/
import Derived.Test.YtlokemkpgnngjaaGreatDoorCxF
set_option linter.unusedVariables false
set_option linter.unusedSimpArgs false
namespace Go.Proofs.YtlokemkpgnngjaaGreatDoor

/-! ### Loops -/
section
variable {α R S : Type} {body : Nat → α → S → Option (Step R S)}
/-- What is kept from round to round; or the answer that ends it. -/
theorem forL_from (P : Nat → S → Prop) (Q : R → Prop) : ∀ (xs : List α) (i : Nat) (s : S), (∀ (j : Nat) (x : α) (s : S), xs[j]? = some x → P (i + j) s → (∃ s', body (i + j) x s = some (.next s') ∧ P (i + j + 1) s') ∨ (∃ r, body (i + j) x s = some (.ret r) ∧ Q r)) → P i s →
    (∃ s', forL body i xs s = some (.go s') ∧ P (i + xs.length) s') ∨ (∃ r, forL body i xs s = some (.ret r) ∧ Q r)
  | [], i, s, _, h0 => .inl ⟨s, rfl, h0⟩
  | x :: xs, i, s, h, h0 => by
    rcases h 0 x s rfl h0 with ⟨s', h1, h2⟩ | ⟨r, h1, h2⟩
    · rcases forL_from P Q xs (i + 1) s' (fun j y t hj hP => by
        have := h (j + 1) y t (by simpa using hj) (by rw [← Nat.add_assoc, Nat.add_right_comm]; exact hP)
        rw [← Nat.add_assoc, Nat.add_right_comm] at this
        exact this) h2 with ⟨t, h3, h4⟩ | ⟨r, h3, h4⟩
      · left
        refine ⟨t, ?_, ?_⟩
        · simp only [Nat.add_zero] at h1; simp only [forL, h1, Option.bind_some]; exact h3
        · rw [List.length_cons, Nat.add_comm xs.length, ← Nat.add_assoc]; exact h4
      · right
        refine ⟨r, ?_, h4⟩
        simp only [Nat.add_zero] at h1; simp only [forL, h1, Option.bind_some]; exact h3
    · right
      refine ⟨r, ?_, h2⟩
      simp only [Nat.add_zero] at h1; simp only [forL, h1, Option.bind_some]
theorem forL_spec (P : Nat → S → Prop) (Q : R → Prop) {xs : List α} {s : S} (h0 : P 0 s) (h : ∀ (j : Nat) (x : α) (s : S), xs[j]? = some x → P j s → (∃ s', body j x s = some (.next s') ∧ P (j + 1) s') ∨ (∃ r, body j x s = some (.ret r) ∧ Q r)) :
    (∃ s', forL body 0 xs s = some (.go s') ∧ P xs.length s') ∨ (∃ r, forL body 0 xs s = some (.ret r) ∧ Q r) := by
  have := forL_from (body := body) P Q xs 0 s (fun j x s hj hP => by simpa using h j x s hj (by simpa using hP)) h0
  simpa using this
/-- A loop that goes to its end. -/
theorem forL_end (P : Nat → S → Prop) {xs : List α} {s : S} (h0 : P 0 s) (h : ∀ (j : Nat) (x : α) (s : S), xs[j]? = some x → P j s → ∃ s', body j x s = some (.next s') ∧ P (j + 1) s') :
    ∃ s', forL body 0 xs s = some (.go s') ∧ P xs.length s' := by
  rcases forL_spec P (fun _ => False) h0 (fun j x s hj hP => .inl (h j x s hj hP)) with h | ⟨_, _, h⟩
  · exact h
  · exact h.elim
/-- What the bodies agree on, the loops agree on. -/
theorem forL_congr {body' : Nat → α → S → Option (Step R S)} : ∀ (xs : List α) (i : Nat) (s : S), (∀ i x s, body i x s = body' i x s) → forL body i xs s = forL body' i xs s
  | [], _, _, _ => rfl
  | x :: xs, i, s, h => by
    simp only [forL, h]
    congr 1
    funext st
    cases st
    · exact forL_congr xs _ _ h
    · rfl
    · rfl
end

/-- A loop that ends, since something grows smaller. -/
theorem whileL_spec {R S : Type} {body : S → Option (Step R S)} (P : S → Prop) (Q : Lr R S → Prop) (μ : S → Nat) (h : ∀ s, P s → (∃ s', body s = some (.next s') ∧ P s' ∧ μ s' < μ s) ∨ (∃ s', body s = some (.brk s') ∧ Q (.go s')) ∨ (∃ r, body s = some (.ret r) ∧ Q (.ret r))) :
    ∀ (k : Nat) (s : S), P s → μ s < k → ∃ o, whileL body k s = some o ∧ Q o
  | 0, _, _, hk => absurd hk (Nat.not_lt_zero _)
  | k + 1, s, hP, hk => by
    rcases h s hP with ⟨s', h1, h2, h3⟩ | ⟨s', h1, h2⟩ | ⟨r, h1, h2⟩
    · obtain ⟨o, g1, g2⟩ := whileL_spec P Q μ h k s' h2 (by omega)
      exact ⟨o, by simp only [whileL, h1, Option.bind_some]; exact g1, g2⟩
    · exact ⟨_, by simp only [whileL, h1, Option.bind_some], h2⟩
    · exact ⟨_, by simp only [whileL, h1, Option.bind_some], h2⟩
theorem lim_ok {n : Nat} (h : n ≤ 4294967296) : lim n = some () := by simp [lim, h]
theorem getO_nat {α : Type} (xs : List α) (i : Nat) : getO xs (i : Int) = xs[i]? := by simp [getO]
theorem setO_nat {α : Type} (xs : List α) (i : Nat) (x : α) : setO xs (i : Int) x = xs.set i x := by simp [setO]

/-! ### Bits -/
theorem wrap_u32 {x : Nat} (h : x < 4294967296) : IntKind.wrap .u32 (x : Int) = (x : Int) := by
  unfold IntKind.wrap
  simp [IntKind.bits, IntKind.signed]
  omega
theorem ofInt32 (m : Nat) : BitVec.ofInt 32 (m : Int) = BitVec.ofNat 32 m := by simp
theorem or_u32 {a b : Nat} (ha : a < 4294967296) (hb : b < 4294967296) : IntKind.wrap .u32 ((BitVec.ofInt (IntKind.bits .u32) (a : Int)) ||| (BitVec.ofInt (IntKind.bits .u32) (b : Int))).toNat = ((a ||| b : Nat) : Int) := by
  show IntKind.wrap .u32 (((BitVec.ofInt 32 (a : Int)) ||| (BitVec.ofInt 32 (b : Int))).toNat : Int) = _
  rw [ofInt32, ofInt32, BitVec.toNat_or, BitVec.toNat_ofNat, BitVec.toNat_ofNat, Nat.mod_eq_of_lt ha, Nat.mod_eq_of_lt hb]
  exact wrap_u32 (Nat.or_lt_two_pow (n := 32) ha hb)
theorem and_u32 {a b : Nat} (ha : a < 4294967296) (hb : b < 4294967296) : IntKind.wrap .u32 ((BitVec.ofInt (IntKind.bits .u32) (a : Int)) &&& (BitVec.ofInt (IntKind.bits .u32) (b : Int))).toNat = ((a &&& b : Nat) : Int) := by
  show IntKind.wrap .u32 (((BitVec.ofInt 32 (a : Int)) &&& (BitVec.ofInt 32 (b : Int))).toNat : Int) = _
  rw [ofInt32, ofInt32, BitVec.toNat_and, BitVec.toNat_ofNat, BitVec.toNat_ofNat, Nat.mod_eq_of_lt ha, Nat.mod_eq_of_lt hb]
  exact wrap_u32 (Nat.and_lt_two_pow (n := 32) a hb)
theorem shl_one {i : Nat} (h : i < 32) : shlO .u32 (1 : Int) (i : Int) = some ((2 ^ i : Nat) : Int) := by
  unfold shlO
  rw [if_neg (by omega)]
  have h1 : min (i : Int).toNat (IntKind.bits .u32) = i := by simp [IntKind.bits]; omega
  have h2 : (2 ^ i : Nat) < 4294967296 := Nat.pow_lt_pow_right (m := i) (n := 32) (by omega) h
  have h3 : (1 : Int) * 2 ^ i = ((2 ^ i : Nat) : Int) := by simp
  rw [h1, h3, wrap_u32 h2]
theorem shr_u32 {m i : Nat} (h : i < 32) : shrO .u32 (m : Int) (i : Int) = some ((m >>> i : Nat) : Int) := by
  unfold shrO
  rw [if_neg (by omega)]
  have h1 : min (i : Int).toNat (IntKind.bits .u32) = i := by simp [IntKind.bits]; omega
  rw [h1, Nat.shiftRight_eq_div_pow]
  congr 1
  have : ((2 : Int) ^ i) = ((2 ^ i : Nat) : Int) := by simp
  have hp : 0 < 2 ^ i := Nat.two_pow_pos i
  rw [this, Int.fdiv_eq_ediv_of_nonneg _ (Int.natCast_nonneg _)]
  rfl
theorem ofNat_bit (a : Nat) {i : Nat} (h : i < 32) : (BitVec.ofNat 32 a)[i] = a.testBit i := by
  rw [← BitVec.getLsbD_eq_getElem, BitVec.getLsbD_ofNat]; simp [h]
theorem andnot_u32 {a b : Nat} (ha : a < 4294967296) (hb : b < 4294967296) : IntKind.wrap .u32 ((BitVec.ofInt (IntKind.bits .u32) (a : Int)) &&& ~~~(BitVec.ofInt (IntKind.bits .u32) (b : Int))).toNat = 0 ↔ ∀ i, a.testBit i = true → b.testBit i = true := by
  show IntKind.wrap .u32 (((BitVec.ofInt 32 (a : Int)) &&& ~~~(BitVec.ofInt 32 (b : Int))).toNat : Int) = 0 ↔ _
  rw [ofInt32, ofInt32]
  have hlt : ((BitVec.ofNat 32 a) &&& ~~~(BitVec.ofNat 32 b)).toNat < 4294967296 := BitVec.isLt _
  rw [wrap_u32 hlt]
  constructor
  · intro h i hi
    have h0 : (BitVec.ofNat 32 a) &&& ~~~(BitVec.ofNat 32 b) = 0#32 := BitVec.eq_of_toNat_eq (by simpa using h)
    have hi32 : i < 32 := by
      rcases Nat.lt_or_ge i 32 with h | h
      · exact h
      · have := Nat.testBit_lt_two_pow (x := a) (i := i) (Nat.lt_of_lt_of_le ha (Nat.pow_le_pow_right (n := 2) (by omega) h))
        rw [this] at hi; cases hi
    have := congrArg (fun v => v.getLsbD i) h0
    simp [hi32, ofNat_bit, hi] at this
    exact this
  · intro h
    have h0 : (BitVec.ofNat 32 a) &&& ~~~(BitVec.ofNat 32 b) = 0#32 := by
      apply BitVec.eq_of_getLsbD_eq
      intro i hi
      simp [hi, ofNat_bit]
      exact h i
    rw [h0]; rfl
theorem take_succ {α : Type} {l : List α} {j : Nat} {x : α} (h : l[j]? = some x) : l.take (j + 1) = l.take j ++ [x] := by
  obtain ⟨hlt, he⟩ := List.getElem?_eq_some_iff.1 h
  rw [List.take_succ_eq_append_getElem hlt, he]
end Go.Proofs.YtlokemkpgnngjaaGreatDoor
