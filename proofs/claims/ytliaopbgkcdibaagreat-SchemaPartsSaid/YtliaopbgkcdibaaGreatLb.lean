/- The package lattice, in plain words: what New answers hangs on the names, and on which level stands below which, alone. No program in sight. -/
import Derived.Test.YtliaopbgkcdibaaGreatLa
import Derived.Test.YtliaopbgkcdibaaGreatCpP
set_option linter.unusedVariables false
set_option linter.unusedSimpArgs false
namespace Go.Proofs.YtliaopbgkcdibaaGreat

/-- Numbers as sets: the list's member a holds b just if r a b. -/
structure Bits (n : Nat) (up : List Int) (r : Nat → Nat → Prop) : Prop where
  len : up.length = n
  bits : ∀ a, a < n → ∃ m : Nat, up[a]? = some (m : Int) ∧ m < 2 ^ n ∧ ∀ b, m.testBit b = true ↔ r a b
theorem Bits.uniq {n : Nat} {up up' : List Int} {r : Nat → Nat → Prop} (h : Bits n up r) (h' : Bits n up' r) : up = up' := by
  apply List.ext_getElem?
  intro a
  by_cases ha : a < n
  · obtain ⟨m, h1, _, h2⟩ := h.bits a ha
    obtain ⟨m', g1, _, g2⟩ := h'.bits a ha
    rw [h1, g1]
    have : m = m' := Nat.eq_of_testBit_eq fun b => by
      have := (h2 b).trans (g2 b).symm
      cases e1 : m.testBit b <;> cases e2 : m'.testBit b <;> simp_all
    rw [this]
  · rw [List.getElem?_eq_none (by rw [h.len]; omega), List.getElem?_eq_none (by rw [h'.len]; omega)]
theorem Bits.congr {n : Nat} {up : List Int} {r r' : Nat → Nat → Prop} (h : Bits n up r) (e : ∀ a b, a < n → (r a b ↔ r' a b)) : Bits n up r' :=
  ⟨h.len, fun a ha => by obtain ⟨m, h1, h2, h3⟩ := h.bits a ha; exact ⟨m, h1, h2, fun b => (h3 b).trans (e a b ha)⟩⟩
theorem lt_u32 {n m : Nat} (hn : n ≤ 16) (h : m < 2 ^ n) : m < 4294967296 := Nat.lt_of_lt_of_le h (Nat.le_trans (Nat.pow_le_pow_right (by omega) hn) (by decide))
theorem Bits.lt {n : Nat} {up : List Int} {r : Nat → Nat → Prop} (h : Bits n up r) {a b : Nat} (ha : a < n) (hr : r a b) : b < n := by
  obtain ⟨m, _, h2, h3⟩ := h.bits a ha
  rcases Nat.lt_or_ge b n with hb | hb
  · exact hb
  · have := (h3 b).2 hr
    rw [Nat.testBit_lt_two_pow (Nat.lt_of_lt_of_le h2 (Nat.pow_le_pow_right (by omega) hb))] at this
    cases this
theorem has_nat {m b : Nat} (k : Nat) (hm : m < 4294967296) (hb : b < 32) : lattice_set_has k (m : Int) (b : Int) = some (m.testBit b) := by
  unfold lattice_set_has
  have h1 : (m >>> b) < 4294967296 := Nat.lt_of_le_of_lt (Nat.shiftRight_le m b) hm
  rw [shr_u32 hb, Option.bind_some, show (1 : Int) = ((1 : Nat) : Int) from rfl, and_u32 h1 (by omega)]
  congr 1
  rw [Nat.testBit, Nat.and_comm]
  have : (1 : Nat) &&& m >>> b = (m >>> b) % 2 := by rw [Nat.and_comm, Nat.and_one_is_mod]
  rw [this]
  rcases Nat.mod_two_eq_zero_or_one (m >>> b) with h | h <;> simp [h]

/-! ### The names -/
def atL (o : Nat) (l : List ByteArray) : List (ByteArray × Int) := (l.zipIdx o).map fun p => (p.1, (p.2 : Int))
theorem atL_cons (o : Nat) (x : ByteArray) (l : List ByteArray) : atL o (x :: l) = (x, (o : Int)) :: atL (o + 1) l := by simp [atL]
theorem at_some : ∀ (l : List ByteArray) (o : Nat) (x : ByteArray) (v : Int), mget (atL o l) x = some v → ∃ i : Nat, v = ((o + i : Nat) : Int) ∧ l[i]? = some x
  | [], o, x, v, h => by simp [atL, mget] at h
  | y :: l, o, x, v, h => by
    rw [atL_cons] at h
    unfold mget at h
    split at h
    · rename_i hy
      cases h
      exact ⟨0, rfl, by simpa using hy⟩
    · obtain ⟨i, h1, h2⟩ := at_some l (o + 1) x v h
      exact ⟨i + 1, by rw [h1]; congr 1; omega, by simpa using h2⟩
theorem at_none : ∀ (l : List ByteArray) (o : Nat) (x : ByteArray), mget (atL o l) x = none ↔ x ∉ l
  | [], o, x => by simp [atL, mget]
  | y :: l, o, x => by
    rw [atL_cons]
    unfold mget
    split
    · rename_i hy
      simp only at hy
      subst hy
      simp
    · rename_i hy
      simp only at hy
      rw [at_none l (o + 1) x]
      constructor
      · intro h hm
        rcases List.mem_cons.1 hm with rfl | hm
        · exact hy rfl
        · exact h hm
      · exact fun h hm => h (List.mem_cons_of_mem _ hm)
theorem at_put : ∀ (l : List ByteArray) (o : Nat) (x : ByteArray), x ∉ l → mput (atL o l) x ((o + l.length : Nat) : Int) = atL o (l ++ [x])
  | [], o, x, _ => by simp [atL, mput]
  | y :: l, o, x, h => by
    rw [List.cons_append, atL_cons, atL_cons]
    unfold mput
    rw [if_neg (fun e => h (by simp only at e; rw [e]; exact List.mem_cons_self))]
    have := at_put l (o + 1) x (fun hm => h (List.mem_cons_of_mem _ hm))
    rw [← this]
    congr 2
    simp only [List.length_cons]; omega
def nmBad (names : List ByteArray) (j : Nat) (x : ByteArray) : Prop := x = (⟨#[]⟩ : ByteArray) ∨ (30 : Int) < (x.size : Int) ∨ x ∈ names.take j
def pows (n : Nat) : List Int := (List.range n).map fun i => ((2 ^ i : Nat) : Int)
theorem pows_bits (n : Nat) : Bits n (pows n) (fun a b => a = b) := by
  refine ⟨by simp [pows], fun a ha => ⟨2 ^ a, by simp [pows, ha], Nat.pow_lt_pow_right (by omega) ha, fun b => ?_⟩⟩
  rw [Nat.testBit_two_pow]; simp
theorem named_spec (k : Nat) (names : List ByteArray) (J M : List Int) (hn : names.length ≤ 16) :
    (lattice_Lattice_named k ⟨names, [], [], [], J, M⟩ = some (0, ⟨names, atL 0 names, pows names.length, pows names.length, J, M⟩) ∧ ∀ j x, names[j]? = some x → ¬ nmBad names j x) ∨
    ∃ L, lattice_Lattice_named k ⟨names, [], [], [], J, M⟩ = some (11, L) ∧ ∃ j x, names[j]? = some x ∧ nmBad names j x := by
  unfold lattice_Lattice_named
  rcases forL_spec (body := lattice_Lattice_named.b0 k ⟨names, [], [], [], J, M⟩) (xs := names) (s := ([], [], []))
    (fun j s => s.1 = atL 0 (names.take j) ∧ s.2.1 = pows j ∧ s.2.2 = pows j ∧ ∀ i x, i < j → names[i]? = some x → ¬ nmBad names i x)
    (fun r => r.1 = 11 ∧ ∃ j x, names[j]? = some x ∧ nmBad names j x) ⟨by simp [atL], by simp [pows], by simp [pows], by simp⟩ (by
      rintro j x ⟨at_, up, dn⟩ hx ⟨h1, h2, h3, h4⟩
      simp only at h1 h2 h3
      subst h1; subst h2; subst h3
      have hj : j < names.length := (List.getElem?_eq_some_iff.1 hx).1
      have hlen : (names.take j).length = j := by simp; omega
      unfold lattice_Lattice_named.b0
      by_cases hb : nmBad names j x
      · right
        have : (bif (mget (atL 0 (names.take j)) x).isSome then some true else (bif decide (x = (⟨#[]⟩ : ByteArray)) then some true else some (decide ((30 : Int) < (x.size : Int))))) = some true := by
          rcases hb with hb | hb | hb
          · cases (mget (atL 0 (names.take j)) x).isSome <;> simp [hb]
          · cases (mget (atL 0 (names.take j)) x).isSome <;> cases decide (x = (⟨#[]⟩ : ByteArray)) <;> simp [hb]
          · have : (mget (atL 0 (names.take j)) x).isSome = true := by
              cases hm : mget (atL 0 (names.take j)) x with
              | none => exact absurd hb ((at_none _ _ _).1 hm)
              | some v => rfl
            rw [this]; rfl
        refine ⟨_, by simp only [this, Option.bind_some]; rfl, rfl, j, x, hx, hb⟩
      · left
        have hni : x ∉ names.take j := fun h => hb (.inr (.inr h))
        have h1 : (mget (atL 0 (names.take j)) x).isSome = false := by rw [(at_none _ _ _).2 hni]; rfl
        have h2 : decide (x = (⟨#[]⟩ : ByteArray)) = false := decide_eq_false fun e => hb (.inl e)
        have h3 : decide ((30 : Int) < (x.size : Int)) = false := decide_eq_false fun e => hb (.inr (.inl e))
        have hpl : (pows j).length = j := by simp [pows]
        have hps : pows (j + 1) = pows j ++ [((2 ^ j : Nat) : Int)] := by simp [pows, List.range_succ]
        refine ⟨(atL 0 (names.take (j + 1)), pows (j + 1), pows (j + 1)), ?_, rfl, rfl, rfl, fun i y hi hy => ?_⟩
        · simp only [h1, h2, h3, cond_false, Option.bind_some, shl_one (show j < 32 by omega), hpl, List.length_singleton, lim_ok (show j + 1 ≤ 4294967296 by omega), hps]
          rw [take_succ hx, ← at_put _ _ _ hni, hlen, Nat.zero_add]
        · rcases Nat.lt_or_ge i j with h | h
          · exact h4 i y h hy
          · have : i = j := by omega
            subst this
            rw [hx] at hy; cases hy; exact hb) with ⟨s, h1, h2, h3, h4, h5⟩ | ⟨r, h1, h2, h3⟩
  · left
    refine ⟨?_, fun j x hx => h5 j x (List.getElem?_eq_some_iff.1 hx).1 hx⟩
    obtain ⟨a, b, c⟩ := s
    simp only at h2 h3 h4
    subst h2; subst h3; subst h4
    simp only [h1, Option.bind_some, Lr.k, List.take_length]
  · right
    obtain ⟨a, L⟩ := r
    simp only at h2
    subst h2
    exact ⟨L, by simp only [h1, Option.bind_some, Lr.k], h3⟩
end Go.Proofs.YtliaopbgkcdibaaGreat
