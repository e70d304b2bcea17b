/- LatticeTurned and LatticeLaws, the plain laws: with all edges the other way round the answers turn round; least and greatest ones keep the laws of lattices. No program in sight. -/
import Derived.Test.YtliaopbgkcdibaaDoorLe
set_option linter.unusedVariables false
set_option linter.unusedSimpArgs false
namespace Go.Proofs.YtliaopbgkcdibaaDoor
theorem beq_of_iff {a b : Bool} {p : Prop} (h1 : a = true ↔ p) (h2 : b = true ↔ p) : (a == b) = true := by
  cases a <;> cases b <;> simp_all

section
variable {names : List ByteArray} {E : List TPair}
theorem way_lt {a b : Nat} (h : Way names E a b) : a < names.length ∧ b < names.length := by
  induction h with
  | refl h => exact ⟨h, h⟩
  | step _ k ih =>
    obtain ⟨e, _, _, h2⟩ := k
    exact ⟨ih.1, (List.getElem?_eq_some_iff.1 h2).1⟩
def back (E : List TPair) : List TPair := E.map fun e => ⟨e.High, e.Low⟩
theorem back_back (E : List TPair) : back (back E) = E := by simp [back, Function.comp_def]
theorem ed_back {a b : Nat} (h : ed names (back E) a b) : ed names E b a := by
  obtain ⟨e, he, h1, h2⟩ := h
  obtain ⟨d, hd, rfl⟩ := List.mem_map.1 he
  exact ⟨d, hd, h2, h1⟩
theorem way_back1 {a b : Nat} (h : Way names (back E) a b) : Way names E b a := by
  induction h with
  | refl h => exact .refl _ h
  | step _ k ih =>
    have k2 := k
    obtain ⟨e, _, _, h2⟩ := k2
    exact Way.trans (.step (.refl _ (List.getElem?_eq_some_iff.1 h2).1) (ed_back k)) ih
theorem way_back (a b : Nat) : Way names (back E) a b ↔ Way names E b a :=
  ⟨way_back1, fun h => way_back1 (by rw [back_back]; exact h)⟩
theorem fits_back1 (h : fits names (back E)) : fits names E :=
  ⟨h.1, fun e he => by
    have := h.2 ⟨e.High, e.Low⟩ (List.mem_map.2 ⟨e, he, rfl⟩)
    exact ⟨this.2, this.1⟩⟩
theorem fits_back : fits names (back E) ↔ fits names E := ⟨fits_back1, fun h => fits_back1 (by rw [back_back]; exact h)⟩
theorem join_back {a b c : Nat} : IsJoin names.length (Way names (back E)) a b c ↔ IsMeet names.length (Way names E) a b c := by
  constructor
  · rintro ⟨h1, h2, h3, h4⟩
    exact ⟨h1, (way_back _ _).1 h2, (way_back _ _).1 h3, fun d _ h5 h6 => (way_back _ _).1 (h4 d ((way_back _ _).2 h5) ((way_back _ _).2 h6))⟩
  · rintro ⟨h1, h2, h3, h4⟩
    exact ⟨h1, (way_back _ _).2 h2, (way_back _ _).2 h3, fun d h5 h6 => (way_back _ _).2 (h4 d (way_lt h5).2 ((way_back _ _).1 h5) ((way_back _ _).1 h6))⟩
theorem meet_back {a b c : Nat} : IsMeet names.length (Way names (back E)) a b c ↔ IsJoin names.length (Way names E) a b c := by
  have := join_back (names := names) (E := back E) (a := a) (b := b) (c := c)
  rw [back_back] at this
  exact this.symm
theorem poor_back {a b : Nat} : Poor names.length (Way names (back E)) a b ↔ Poor names.length (Way names E) a b := by
  unfold Poor
  simp only [way_back, join_back, meet_back]
  constructor
  · rintro (⟨h1, h2, h3⟩ | h | h)
    · exact .inl ⟨h1, h3, h2⟩
    · exact .inr (.inr h)
    · exact .inr (.inl h)
  · rintro (⟨h1, h2, h3⟩ | h | h)
    · exact .inl ⟨h1, h3, h2⟩
    · exact .inr (.inr h)
    · exact .inr (.inl h)
end
section
variable {n : Nat} {r : Nat → Nat → Prop} {L : Tlattice_Lattice}
theorem Lat.anti (h : Lat n r L) {a b : Nat} (ha : a < n) (hb : b < n) (h1 : r a b) (h2 : r b a) : a = b := by
  by_cases e : a = b
  · exact e
  · exact ((h.good a b ha hb).1 e ⟨h1, h2⟩).elim
theorem Lat.rich (h : Lat n r L) {a b : Nat} (ha : a < n) (hb : b < n) : ¬ Poor n r a b := by
  obtain ⟨h1, ⟨c, _, h2⟩, ⟨d, _, h3⟩⟩ := h.good a b ha hb
  rintro (⟨e, k1, k2⟩ | k | k)
  · exact h1 e ⟨k1, k2⟩
  · exact k ⟨c, h2⟩
  · exact k ⟨d, h3⟩
theorem Lat.joinu (h : Lat n r L) {a b c d : Nat} (h1 : IsJoin n r a b c) (h2 : IsJoin n r a b d) : c = d :=
  h.anti h1.1 h2.1 (h1.2.2.2 d h2.2.1 h2.2.2.1) (h2.2.2.2 c h1.2.1 h1.2.2.1)
theorem Lat.meetu (h : Lat n r L) {a b c d : Nat} (h1 : IsMeet n r a b c) (h2 : IsMeet n r a b d) : c = d :=
  h.anti h1.1 h2.1 (h2.2.2.2 c h1.1 h1.2.1 h1.2.2.1) (h1.2.2.2 d h2.1 h2.2.1 h2.2.2.1)
theorem bottom_in (k : Nat) (h : Lat n r L) (tr : ∀ a b c, r a b → r b c → r a c) : ∃ c : Nat, lattice_Lattice_Bottom k (some L) = some (c : Int) ∧ c < n ∧ ∀ b, b < n → r c b := by
  have hn := h.small
  obtain ⟨s, h1, m, rfl, h2, h3⟩ := forL_end (body := lattice_Lattice_Bottom.b0 k L) (xs := L.names_) (s := (0 : Int)) (fun i s => ∃ m : Nat, s = (m : Int) ∧ m < n ∧ ∀ b, b < i → r m b) ⟨0, rfl, h.pos, fun b hb => absurd hb (Nat.not_lt_zero _)⟩ (by
    rintro j x s hx ⟨m, rfl, h2, h3⟩
    have hj : j < n := by have := (List.getElem?_eq_some_iff.1 hx).1; rw [h.names] at this; exact this
    obtain ⟨c, c1, c2⟩ := (h.good m j h2 hj).2.2
    have hj1 : inB 16 (m : Int) = some () := by unfold inB; rw [if_pos (by omega)]
    have hj2 : inB 16 (j : Int) = some () := by unfold inB; rw [if_pos (by omega)]
    refine ⟨(c : Int), ?_, c, rfl, c2.1, fun b hb => ?_⟩
    · unfold lattice_Lattice_Bottom.b0
      simp only [hj1, hj2, Option.bind_some, Int.toNat_natCast, Nat.mul_one, c1]
    · rcases Nat.lt_succ_iff_lt_or_eq.1 hb with hb | rfl
      · exact tr _ _ _ c2.2.1 (h3 b hb)
      · exact c2.2.2.1)
  refine ⟨m, ?_, h2, fun b hb => h3 b (by rw [h.names]; exact hb)⟩
  unfold lattice_Lattice_Bottom
  have := is_in k h h.pos
  simp only [show ((0 : Nat) : Int) = 0 from rfl] at this
  simp only [this, Option.bind_some, Bool.not_true, cond_false, optE, h1, Lr.k]
theorem top_in (k : Nat) (h : Lat n r L) (tr : ∀ a b c, r a b → r b c → r a c) : ∃ c : Nat, lattice_Lattice_Top k (some L) = some (c : Int) ∧ c < n ∧ ∀ b, b < n → r b c := by
  have hn := h.small
  obtain ⟨s, h1, m, rfl, h2, h3⟩ := forL_end (body := lattice_Lattice_Top.b0 k L) (xs := L.names_) (s := (0 : Int)) (fun i s => ∃ m : Nat, s = (m : Int) ∧ m < n ∧ ∀ b, b < i → r b m) ⟨0, rfl, h.pos, fun b hb => absurd hb (Nat.not_lt_zero _)⟩ (by
    rintro j x s hx ⟨m, rfl, h2, h3⟩
    have hj : j < n := by have := (List.getElem?_eq_some_iff.1 hx).1; rw [h.names] at this; exact this
    obtain ⟨c, c1, c2⟩ := (h.good m j h2 hj).2.1
    have hj1 : inB 16 (m : Int) = some () := by unfold inB; rw [if_pos (by omega)]
    have hj2 : inB 16 (j : Int) = some () := by unfold inB; rw [if_pos (by omega)]
    refine ⟨(c : Int), ?_, c, rfl, c2.1, fun b hb => ?_⟩
    · unfold lattice_Lattice_Top.b0
      simp only [hj1, hj2, Option.bind_some, Int.toNat_natCast, Nat.mul_one, c1]
    · rcases Nat.lt_succ_iff_lt_or_eq.1 hb with hb | rfl
      · exact tr _ _ _ (h3 b hb) c2.2.1
      · exact c2.2.2.1)
  refine ⟨m, ?_, h2, fun b hb => h3 b (by rw [h.names]; exact hb)⟩
  unfold lattice_Lattice_Top
  have := is_in k h h.pos
  simp only [show ((0 : Nat) : Int) = 0 from rfl] at this
  simp only [this, Option.bind_some, Bool.not_true, cond_false, optE, h1, Lr.k]
end
end Go.Proofs.YtliaopbgkcdibaaDoor
