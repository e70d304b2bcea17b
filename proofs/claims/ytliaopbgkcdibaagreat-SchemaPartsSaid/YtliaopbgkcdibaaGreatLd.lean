/- The package lattice, in plain words: the tables: the least above any two, the greatest below any two. No program in sight. -/
import Derived.Test.YtliaopbgkcdibaaGreatLc
set_option linter.unusedVariables false
set_option linter.unusedSimpArgs false
namespace Go.Proofs.YtliaopbgkcdibaaGreat

theorem least_spec (k : Nat) {n : Nat} (hn : n ≤ 16) {up : List Int} {r : Nat → Nat → Prop} (hu : Bits n up r) {S : Nat} (hS : S < 2 ^ n) :
    (∃ a : Nat, a < n ∧ lattice_least k (S : Int) up = some (a : Int) ∧ S.testBit a = true ∧ ∀ b, S.testBit b = true → r a b) ∨
    (lattice_least k (S : Int) up = some (-1) ∧ ∀ a, a < n → S.testBit a = true → ∃ b, S.testBit b = true ∧ ¬ r a b) := by
  unfold lattice_least
  rcases forL_spec (body := lattice_least.b0 k (S : Int)) (xs := up) (s := ()) (fun j _ => ∀ a, a < j → a < n → S.testBit a = true → ∃ b, S.testBit b = true ∧ ¬ r a b)
    (fun x => ∃ a : Nat, a < n ∧ x = (a : Int) ∧ S.testBit a = true ∧ ∀ b, S.testBit b = true → r a b) (fun a h => absurd h (Nat.not_lt_zero _)) (by
      rintro j x ⟨⟩ hx h
      have hj : j < n := by rw [← hu.len]; exact (List.getElem?_eq_some_iff.1 hx).1
      obtain ⟨m, m1, m2, m3⟩ := hu.bits j hj
      have hxm : x = (m : Int) := by rw [hx] at m1; simpa using m1
      subst hxm
      unfold lattice_least.b0
      rw [has_nat k (lt_u32 hn hS) (show j < 32 by omega), Option.bind_some]
      cases hb : S.testBit j with
      | false =>
        left
        refine ⟨(), by simp, fun a ha han hSa => ?_⟩
        rcases Nat.lt_or_ge a j with h1 | h1
        · exact h a h1 han hSa
        · have : a = j := by omega
          subst this
          rw [hSa] at hb; cases hb
      | true =>
        have hsub := andnot_u32 (lt_u32 hn hS) (lt_u32 hn m2)
        by_cases e : ∀ i, S.testBit i = true → m.testBit i = true
        · right
          refine ⟨_, by simp only [cond_true, Option.bind_some, decide_eq_true (hsub.2 e)], j, hj, rfl, hb, fun b hSb => (m3 b).1 (e b hSb)⟩
        · left
          have hne : ¬ _ := fun h0 => e (hsub.1 h0)
          refine ⟨(), by simp only [cond_true, Option.bind_some, decide_eq_false hne, cond_false], fun a ha han hSa => ?_⟩
          rcases Nat.lt_or_ge a j with h1 | h1
          · exact h a h1 han hSa
          · have : a = j := by omega
            subst this
            obtain ⟨b, hb2⟩ := Classical.not_forall.1 e
            obtain ⟨h2, h3⟩ := Classical.not_imp.1 hb2
            exact ⟨b, h2, fun hr => h3 ((m3 b).2 hr)⟩) with ⟨s, h1, h2⟩ | ⟨x, h1, a, h2, rfl, h3⟩
  · right
    exact ⟨by simp only [h1, Option.bind_some, Lr.k], fun a ha => h2 a (by rw [hu.len]; exact ha) ha⟩
  · left
    exact ⟨a, h2, by simp only [h1, Option.bind_some, Lr.k], h3⟩
def IsJoin (n : Nat) (r : Nat → Nat → Prop) (a b c : Nat) : Prop := c < n ∧ r a c ∧ r b c ∧ ∀ d, r a d → r b d → r c d
def IsMeet (n : Nat) (r : Nat → Nat → Prop) (a b c : Nat) : Prop := c < n ∧ r c a ∧ r c b ∧ ∀ d, d < n → r d a → r d b → r d c
theorem setA_at (xs : List Int) (i : Nat) (v : Int) (j : Nat) : (setA xs i v).getD j 0 = if i = j then v else xs.getD j 0 := by
  unfold setA
  split
  · rename_i h
    simp only [List.getD_eq_getElem?_getD, List.getElem?_set]
    split
    · subst_vars; simp [h]
    · rfl
  · rename_i h
    simp only [List.getD_eq_getElem?_getD]
    rcases Nat.lt_trichotomy j i with h1 | h1 | h1
    · rw [if_neg (by omega), List.getElem?_append_left (by simp; omega)]
      by_cases h2 : j < xs.length
      · rw [List.getElem?_append_left h2]
      · rw [List.getElem?_append_right (by omega), List.getElem?_eq_none (l := xs) (by omega)]
        simp [List.getElem?_replicate]
        split <;> rfl
    · subst h1
      rw [if_pos rfl, List.getElem?_append_right (by simp; omega)]
      simp [show j - (xs.length + (j - xs.length)) = 0 by omega]
    · rw [if_neg (by omega), List.getElem?_eq_none (by simp; omega), List.getElem?_eq_none (by omega)]

theorem Bits.m {n : Nat} {up : List Int} {r : Nat → Nat → Prop} (h : Bits n up r) {a : Nat} (ha : a < n) : ∃ m : Nat, up[a]? = some (m : Int) ∧ m < 2 ^ n ∧ ∀ b, m.testBit b = true ↔ r a b := h.bits a ha
/-- What the tables say of two levels. -/
def Good (n : Nat) (r : Nat → Nat → Prop) (J M : List Int) (a b : Nat) : Prop := (a ≠ b → ¬ (r a b ∧ r b a)) ∧ (∃ c : Nat, J.getD (a * 16 + b) 0 = (c : Int) ∧ IsJoin n r a b c) ∧ (∃ c : Nat, M.getD (a * 16 + b) 0 = (c : Int) ∧ IsMeet n r a b c)
def Poor (n : Nat) (r : Nat → Nat → Prop) (a b : Nat) : Prop := (a ≠ b ∧ r a b ∧ r b a) ∨ (¬ ∃ c, IsJoin n r a b c) ∨ ¬ ∃ c, IsMeet n r a b c
theorem place_inj {a b c d : Nat} (hb : b < 16) (hd : d < 16) (h : a * 16 + b = c * 16 + d) : a = c ∧ b = d := by omega
theorem Good.set {n : Nat} {r : Nat → Nat → Prop} {J M : List Int} {a b i j : Nat} (h : Good n r J M a b) (hb : b < 16) (hj : j < 16) (hne : ¬ (a = i ∧ b = j)) (x y : Int) : Good n r (setA J (i * 16 + j) x) (setA M (i * 16 + j) y) a b := by
  have : ¬ i * 16 + j = a * 16 + b := fun e => hne (by have := place_inj hb hj e.symm; exact this)
  unfold Good at *
  rw [setA_at, setA_at, if_neg this, if_neg this]; exact h
section
variable {n : Nat} {names : List ByteArray} {at_ : List (ByteArray × Int)} {up dn : List Int} {r : Nat → Nat → Prop} {J0 M0 : List Int}
theorem tables_b1 (k : Nat) (hn : n ≤ 16) (hu : Bits n up r) (hd : Bits n dn (fun a b => r b a)) {i j : Nat} (hi : i < n) (hj : j < n) (x : ByteArray) (J M : List Int) :
    (∃ c c' : Nat, lattice_Lattice_tables.b1 k i ⟨names, at_, up, dn, J0, M0⟩ j x (J, M) = some (.next (setA J (i * 16 + j) (c : Int), setA M (i * 16 + j) (c' : Int))) ∧ (i ≠ j → ¬ (r i j ∧ r j i)) ∧ IsJoin n r i j c ∧ IsMeet n r i j c') ∨
    (∃ L, lattice_Lattice_tables.b1 k i ⟨names, at_, up, dn, J0, M0⟩ j x (J, M) = some (.ret (false, L)) ∧ Poor n r i j) := by
  obtain ⟨m, m1, m2, m3⟩ := hu.m hi
  obtain ⟨m', m1', m2', m3'⟩ := hu.m hj
  obtain ⟨p, p1, p2, p3⟩ := hd.m hi
  obtain ⟨p', p1', p2', p3'⟩ := hd.m hj
  unfold lattice_Lattice_tables.b1
  simp only [getO_nat, m1, m1', p1, p1', Option.bind_some, has_nat k (lt_u32 hn m2) (show j < 32 by omega), has_nat k (lt_u32 hn m2') (show i < 32 by omega)]
  by_cases hanti : i ≠ j ∧ r i j ∧ r j i
  · right
    have h1 : decide ((i : Int) = (j : Int)) = false := decide_eq_false (by omega)
    refine ⟨_, by simp only [h1, Bool.not_false, cond_true, (m3 j).2 hanti.2.1, (m3' i).2 hanti.2.2, Option.bind_some]; rfl, .inl hanti⟩
  · have hfirst : (bif !decide ((i : Int) = (j : Int)) then (bif m.testBit j then some (m'.testBit i) else some false) else some false) = some false := by
      by_cases h1 : i = j
      · subst h1; simp
      · have h2 : decide ((i : Int) = (j : Int)) = false := decide_eq_false (by omega)
        rw [h2]
        cases h3 : m.testBit j with
        | false => rfl
        | true => cases h4 : m'.testBit i with
          | false => rfl
          | true => exact absurd ⟨h1, (m3 j).1 h3, (m3' i).1 h4⟩ hanti
    have hbits : ∀ b, (m &&& m').testBit b = true ↔ r i b ∧ r j b := fun b => by rw [Nat.testBit_and, Bool.and_eq_true, m3, m3']
    have hbits' : ∀ b, (p &&& p').testBit b = true ↔ r b i ∧ r b j := fun b => by rw [Nat.testBit_and, Bool.and_eq_true, p3, p3']
    simp only [hfirst, Option.bind_some, cond_false, and_u32 (lt_u32 hn m2) (lt_u32 hn m2'), and_u32 (lt_u32 hn p2) (lt_u32 hn p2')]
    have hj1 : inB 16 (i : Int) = some () := by unfold inB; rw [if_pos (by omega)]
    have hj2 : inB 16 (j : Int) = some () := by unfold inB; rw [if_pos (by omega)]
    rcases least_spec k hn hu (S := m &&& m') (Nat.and_lt_two_pow m m2') with ⟨c, c1, c2, c3, c4⟩ | ⟨c2, c3⟩
    · rcases least_spec k hn hd (S := p &&& p') (Nat.and_lt_two_pow p p2') with ⟨d, d1, d2, d3, d4⟩ | ⟨d2, d3⟩
      · left
        have hc0 : decide ((c : Int) < 0) = false := decide_eq_false (by omega)
        have hd0 : decide ((d : Int) < 0) = false := decide_eq_false (by omega)
        refine ⟨c, d, ?_, fun hne hr => hanti ⟨hne, hr⟩, ⟨c1, ((hbits c).1 c3).1, ((hbits c).1 c3).2, fun e h1 h2 => c4 e ((hbits e).2 ⟨h1, h2⟩)⟩, ⟨d1, ((hbits' d).1 d3).1, ((hbits' d).1 d3).2, fun e _ h1 h2 => d4 e ((hbits' e).2 ⟨h1, h2⟩)⟩⟩
        simp only [c2, d2, Option.bind_some, hc0, hd0, cond_false, hj1, hj2, Int.toNat_natCast, Nat.mul_one]
      · right
        have hc0 : decide ((c : Int) < 0) = false := decide_eq_false (by omega)
        refine ⟨_, by simp only [c2, d2, Option.bind_some, hc0, cond_false]; rfl, .inr (.inr ?_)⟩
        rintro ⟨e, e1, e2, e3, e4⟩
        obtain ⟨b, b1, b2⟩ := d3 e e1 ((hbits' e).2 ⟨e2, e3⟩)
        have := (hbits' b).1 b1
        exact b2 (e4 b (hd.lt hi this.1) this.1 this.2)
    · right
      refine ⟨⟨names, at_, up, dn, J, M⟩, ?_, .inr (.inl ?_)⟩
      · rcases least_spec k hn hd (S := p &&& p') (Nat.and_lt_two_pow p p2') with ⟨d, d1, d2, _⟩ | ⟨d2, _⟩
        · simp only [c2, d2, Option.bind_some]; rfl
        · simp only [c2, d2, Option.bind_some]; rfl
      · rintro ⟨e, e1, e2, e3, e4⟩
        obtain ⟨b, b1, b2⟩ := c3 e e1 ((hbits e).2 ⟨e2, e3⟩)
        have := (hbits b).1 b1
        exact b2 (e4 b this.1 this.2)
theorem tables_spec (k : Nat) (hn : n ≤ 16) (hl : names.length = n) (hu : Bits n up r) (hd : Bits n dn (fun a b => r b a)) :
    (∃ J M, lattice_Lattice_tables k ⟨names, at_, up, dn, J0, M0⟩ = some (true, ⟨names, at_, up, dn, J, M⟩) ∧ 0 < n ∧ ∀ a b, a < n → b < n → Good n r J M a b) ∨
    (∃ L, lattice_Lattice_tables k ⟨names, at_, up, dn, J0, M0⟩ = some (false, L) ∧ (n = 0 ∨ ∃ a b, a < n ∧ b < n ∧ Poor n r a b)) := by
  unfold lattice_Lattice_tables
  rcases forL_spec (body := lattice_Lattice_tables.b0 k ⟨names, at_, up, dn, J0, M0⟩) (xs := names) (s := (J0, M0))
    (fun i s => ∀ a b, a < i → b < n → Good n r s.1 s.2 a b) (fun x => ∃ L, x = (false, L) ∧ ∃ a b, a < n ∧ b < n ∧ Poor n r a b) (fun a b h => absurd h (Nat.not_lt_zero _)) (by
      rintro i x ⟨J, M⟩ hx hP
      have hi : i < n := by rw [← hl]; exact (List.getElem?_eq_some_iff.1 hx).1
      unfold lattice_Lattice_tables.b0
      rcases forL_spec (body := lattice_Lattice_tables.b1 k i ⟨names, at_, up, dn, J0, M0⟩) (xs := names) (s := (J, M))
        (fun j s => ∀ a b, (a < i ∧ b < n) ∨ (a = i ∧ b < j) → Good n r s.1 s.2 a b) (fun x => ∃ L, x = (false, L) ∧ ∃ a b, a < n ∧ b < n ∧ Poor n r a b) (fun a b h => by
          rcases h with h | h
          · exact hP a b h.1 h.2
          · exact absurd h.2 (Nat.not_lt_zero _)) (by
          rintro j y ⟨J1, M1⟩ hy hP1
          have hj : j < n := by rw [← hl]; exact (List.getElem?_eq_some_iff.1 hy).1
          rcases tables_b1 (names := names) (at_ := at_) (J0 := J0) (M0 := M0) k hn hu hd hi hj y J1 M1 with ⟨c, c', h1, h2, h3, h4⟩ | ⟨L, h1, h2⟩
          · left
            refine ⟨_, h1, fun a b hab => ?_⟩
            by_cases e : a = i ∧ b = j
            · obtain ⟨rfl, rfl⟩ := e
              exact ⟨h2, ⟨c, by rw [setA_at, if_pos rfl], h3⟩, ⟨c', by rw [setA_at, if_pos rfl], h4⟩⟩
            · have hb : b < n := by
                rcases hab with h | h
                · exact h.2
                · omega
              refine Good.set (hP1 a b ?_) (by omega) (by omega) e _ _
              rcases hab with h | h
              · exact .inl h
              · exact .inr ⟨h.1, by
                  rcases Nat.lt_or_ge b j with h5 | h5
                  · exact h5
                  · exact absurd ⟨h.1, by omega⟩ e⟩
          · exact .inr ⟨_, h1, L, rfl, i, j, hi, hj, h2⟩) with ⟨⟨J1, M1⟩, h1, h2⟩ | ⟨y, h1, h2⟩
      · left
        refine ⟨(J1, M1), by simp only [h1, Option.bind_some, Lr.k], fun a b ha hb => h2 a b ?_⟩
        rcases Nat.lt_or_ge a i with h | h
        · exact .inl ⟨h, hb⟩
        · exact .inr ⟨by omega, by rw [hl]; exact hb⟩
      · right
        exact ⟨y, by simp only [h1, Option.bind_some, Lr.k], h2⟩) with ⟨⟨J, M⟩, h1, h2⟩ | ⟨y, h1, L, rfl, h2⟩
  · simp only [h1, Option.bind_some, Lr.k, hl]
    rcases Nat.eq_zero_or_pos n with h0 | h0
    · right
      refine ⟨_, by rw [decide_eq_false (by omega)], .inl h0⟩
    · left
      exact ⟨J, M, by rw [decide_eq_true (by omega)], h0, fun a b ha hb => h2 a b (by rw [hl]; exact ha) hb⟩
  · right
    exact ⟨L, by simp only [h1, Option.bind_some, Lr.k], .inr h2⟩
end
end Go.Proofs.YtliaopbgkcdibaaGreat
