/- The reference of layer 3, in plain words: what its lattice answers; both News side by side. No program in sight. -/
import Derived.Test.YtliaopbgkcdibaaDoorLj
set_option linter.unusedVariables false
set_option linter.unusedSimpArgs false
namespace Go.Proofs.YtliaopbgkcdibaaDoor

/-- the reference's lattice tells r -/
structure RLat (n : Nat) (r : Nat → Nat → Prop) (R : Tref03_Lattice) : Prop where
  names : R.Names.length = n
  at' : ∀ a b, a < n → b < n → ∃ row v, R.Below[a]? = some row ∧ row[b]? = some v ∧ (v = true ↔ r a b)
section
variable {n : Nat} {r : Nat → Nat → Prop} {R : Tref03_Lattice}
theorem ris (k : Nat) (h : RLat n r R) (a : Int) : ref03_Lattice_Is k (some R) a = some (decide (0 ≤ a ∧ a < n)) := by
  unfold ref03_Lattice_Is
  by_cases h0 : 0 ≤ a
  · simp only [decide_eq_true h0, cond_true, optE, Option.bind_some, h.names, h0, true_and, decide_true]
  · simp only [decide_eq_false h0, cond_false, Option.bind_some, h0, false_and, decide_false]
theorem rleq (k : Nat) (h : RLat n r R) {a b : Nat} (ha : a < n) (hb : b < n) : ∃ v : Bool, ref03_Lattice_Leq k (some R) (a : Int) (b : Int) = some v ∧ (v = true ↔ r a b) := by
  obtain ⟨row, v, h1, h2, h3⟩ := h.at' a b ha hb
  refine ⟨v, ?_, h3⟩
  unfold ref03_Lattice_Leq
  simp only [ris k h, decide_eq_true (show (0 : Int) ≤ (a : Int) ∧ (a : Int) < n by omega), decide_eq_true (show (0 : Int) ≤ (b : Int) ∧ (b : Int) < n by omega), Option.bind_some, cond_true, optE, getO_nat, h1, h2]
theorem rjoin (k : Nat) (h : RLat n r R) (bd : ∀ a b, r a b → b < n) {a b : Nat} (ha : a < n) (hb : b < n) :
    (∃ c : Nat, ref03_Lattice_Join k (some R) (a : Int) (b : Int) = some (c : Int) ∧ IsJoin n r a b c) ∨ (ref03_Lattice_Join k (some R) (a : Int) (b : Int) = some (-1) ∧ ¬ ∃ c, IsJoin n r a b c) := by
  rcases forL_spec (body := ref03_Lattice_Join.b0 k (some R) (a : Int) (b : Int) R) (xs := R.Names) (s := ()) (fun i _ => ∀ c, c < i → ¬ IsJoin n r a b c) (fun x => ∃ c : Nat, x = (c : Int) ∧ IsJoin n r a b c) (fun c hc => absurd hc (Nat.not_lt_zero _)) (by
    rintro c x ⟨⟩ hx hP
    have hc : c < n := by have := (List.getElem?_eq_some_iff.1 hx).1; rw [h.names] at this; exact this
    obtain ⟨v, v1, v2⟩ := rleq k h ha hc
    obtain ⟨w, w1, w2⟩ := rleq k h hb hc
    have step : (¬ IsJoin n r a b c) → ∀ d, d < c + 1 → ¬ IsJoin n r a b d := fun hn d hd => by
      rcases Nat.lt_succ_iff_lt_or_eq.1 hd with hd | rfl
      · exact hP d hd
      · exact hn
    unfold ref03_Lattice_Join.b0 ref03_Lattice_Join.j1
    cases v with
    | false =>
      refine .inl ⟨(), ?_, step fun hj => by have := v2.2 hj.2.1; cases this⟩
      simp only [v1, Option.bind_some, Bool.not_false, cond_true]
    | true =>
      cases w with
      | false =>
        refine .inl ⟨(), ?_, step fun hj => by have := w2.2 hj.2.2.1; cases this⟩
        simp only [v1, w1, Option.bind_some, Bool.not_false, Bool.not_true, cond_true, cond_false]
      | true =>
        obtain ⟨s, s1, s2⟩ := forL_end (body := ref03_Lattice_Join.b2 k (some R) (a : Int) (b : Int) c) (xs := R.Names) (s := true) (fun i s => (s = true ↔ ∀ d, d < i → r a d → r b d → r c d)) (iff_of_true rfl fun d hd => absurd hd (Nat.not_lt_zero _)) (by
          rintro d y s hy hs
          have hd : d < n := by have := (List.getElem?_eq_some_iff.1 hy).1; rw [h.names] at this; exact this
          obtain ⟨p, p1, p2⟩ := rleq k h ha hd
          obtain ⟨q, q1, q2⟩ := rleq k h hb hd
          obtain ⟨o, o1, o2⟩ := rleq k h hc hd
          refine ⟨s && (!p || !q || o), ?_, ?_⟩
          · unfold ref03_Lattice_Join.b2
            cases p <;> cases q <;> cases o <;> cases s <;> simp only [p1, q1, o1, Option.bind_some, cond_true, cond_false, Bool.not_true, Bool.not_false] <;> rfl
          · constructor
            · intro h1 d' hd' k1 k2
              simp only [Bool.and_eq_true, Bool.or_eq_true, Bool.not_eq_true'] at h1
              rcases Nat.lt_succ_iff_lt_or_eq.1 hd' with hd' | rfl
              · exact hs.1 h1.1 d' hd' k1 k2
              · rcases h1.2 with (h2 | h2) | h2
                · rw [p2.2 k1] at h2; cases h2
                · rw [q2.2 k2] at h2; cases h2
                · exact o2.1 h2
            · intro hall
              simp only [Bool.and_eq_true, Bool.or_eq_true, Bool.not_eq_true']
              refine ⟨hs.2 fun d' hd' => hall d' (by omega), ?_⟩
              cases hp : p
              · exact .inl (.inl rfl)
              · cases hq : q
                · exact .inl (.inr rfl)
                · exact .inr (o2.2 (hall d (by omega) (p2.1 hp) (q2.1 hq))))
        rw [h.names] at s2
        cases s with
        | true =>
          refine .inr ⟨(c : Int), ?_, c, rfl, hc, v2.1 rfl, w2.1 rfl, fun d k1 k2 => s2.1 rfl d (bd _ _ k1) k1 k2⟩
          simp only [v1, w1, Option.bind_some, Bool.not_true, cond_true, cond_false, s1, Lr.k]
        | false =>
          refine .inl ⟨(), ?_, step fun hj => by have := s2.2 fun d _ k1 k2 => hj.2.2.2 d k1 k2; cases this⟩
          simp only [v1, w1, Option.bind_some, Bool.not_true, cond_true, cond_false, s1, Lr.k]) with ⟨⟨⟩, h1, h2⟩ | ⟨x, h1, c, rfl, h2⟩
  · right
    rw [h.names] at h2
    refine ⟨?_, fun ⟨c, hc⟩ => h2 c hc.1 hc⟩
    unfold ref03_Lattice_Join
    simp only [optE, h1, Option.bind_some, Lr.k]
  · left
    refine ⟨c, ?_, h2⟩
    unfold ref03_Lattice_Join
    simp only [optE, h1, Option.bind_some, Lr.k]
theorem rmeet (k : Nat) (h : RLat n r R) {a b : Nat} (ha : a < n) (hb : b < n) :
    (∃ c : Nat, ref03_Lattice_Meet k (some R) (a : Int) (b : Int) = some (c : Int) ∧ IsMeet n r a b c) ∨ (ref03_Lattice_Meet k (some R) (a : Int) (b : Int) = some (-1) ∧ ¬ ∃ c, IsMeet n r a b c) := by
  rcases forL_spec (body := ref03_Lattice_Meet.b0 k (some R) (a : Int) (b : Int) R) (xs := R.Names) (s := ()) (fun i _ => ∀ c, c < i → ¬ IsMeet n r a b c) (fun x => ∃ c : Nat, x = (c : Int) ∧ IsMeet n r a b c) (fun c hc => absurd hc (Nat.not_lt_zero _)) (by
    rintro c x ⟨⟩ hx hP
    have hc : c < n := by have := (List.getElem?_eq_some_iff.1 hx).1; rw [h.names] at this; exact this
    obtain ⟨v, v1, v2⟩ := rleq k h hc ha
    obtain ⟨w, w1, w2⟩ := rleq k h hc hb
    have step : (¬ IsMeet n r a b c) → ∀ d, d < c + 1 → ¬ IsMeet n r a b d := fun hn d hd => by
      rcases Nat.lt_succ_iff_lt_or_eq.1 hd with hd | rfl
      · exact hP d hd
      · exact hn
    unfold ref03_Lattice_Meet.b0 ref03_Lattice_Meet.j1
    cases v with
    | false =>
      refine .inl ⟨(), ?_, step fun hj => by have := v2.2 hj.2.1; cases this⟩
      simp only [v1, Option.bind_some, Bool.not_false, cond_true]
    | true =>
      cases w with
      | false =>
        refine .inl ⟨(), ?_, step fun hj => by have := w2.2 hj.2.2.1; cases this⟩
        simp only [v1, w1, Option.bind_some, Bool.not_false, Bool.not_true, cond_true, cond_false]
      | true =>
        obtain ⟨s, s1, s2⟩ := forL_end (body := ref03_Lattice_Meet.b2 k (some R) (a : Int) (b : Int) c) (xs := R.Names) (s := true) (fun i s => (s = true ↔ ∀ d, d < i → r d a → r d b → r d c)) (iff_of_true rfl fun d hd => absurd hd (Nat.not_lt_zero _)) (by
          rintro d y s hy hs
          have hd : d < n := by have := (List.getElem?_eq_some_iff.1 hy).1; rw [h.names] at this; exact this
          obtain ⟨p, p1, p2⟩ := rleq k h hd ha
          obtain ⟨q, q1, q2⟩ := rleq k h hd hb
          obtain ⟨o, o1, o2⟩ := rleq k h hd hc
          refine ⟨s && (!p || !q || o), ?_, ?_⟩
          · unfold ref03_Lattice_Meet.b2
            cases p <;> cases q <;> cases o <;> cases s <;> simp only [p1, q1, o1, Option.bind_some, cond_true, cond_false, Bool.not_true, Bool.not_false] <;> rfl
          · constructor
            · intro h1 d' hd' k1 k2
              simp only [Bool.and_eq_true, Bool.or_eq_true, Bool.not_eq_true'] at h1
              rcases Nat.lt_succ_iff_lt_or_eq.1 hd' with hd' | rfl
              · exact hs.1 h1.1 d' hd' k1 k2
              · rcases h1.2 with (h2 | h2) | h2
                · rw [p2.2 k1] at h2; cases h2
                · rw [q2.2 k2] at h2; cases h2
                · exact o2.1 h2
            · intro hall
              simp only [Bool.and_eq_true, Bool.or_eq_true, Bool.not_eq_true']
              refine ⟨hs.2 fun d' hd' => hall d' (by omega), ?_⟩
              cases hp : p
              · exact .inl (.inl rfl)
              · cases hq : q
                · exact .inl (.inr rfl)
                · exact .inr (o2.2 (hall d (by omega) (p2.1 hp) (q2.1 hq))))
        rw [h.names] at s2
        cases s with
        | true =>
          refine .inr ⟨(c : Int), ?_, c, rfl, hc, v2.1 rfl, w2.1 rfl, fun d hd k1 k2 => s2.1 rfl d hd k1 k2⟩
          simp only [v1, w1, Option.bind_some, Bool.not_true, cond_true, cond_false, s1, Lr.k]
        | false =>
          refine .inl ⟨(), ?_, step fun hj => by have := s2.2 fun d hd k1 k2 => hj.2.2.2 d hd k1 k2; cases this⟩
          simp only [v1, w1, Option.bind_some, Bool.not_true, cond_true, cond_false, s1, Lr.k]) with ⟨⟨⟩, h1, h2⟩ | ⟨x, h1, c, rfl, h2⟩
  · right
    rw [h.names] at h2
    refine ⟨?_, fun ⟨c, hc⟩ => h2 c hc.1 hc⟩
    unfold ref03_Lattice_Meet
    simp only [optE, h1, Option.bind_some, Lr.k]
  · left
    refine ⟨c, ?_, h2⟩
    unfold ref03_Lattice_Meet
    simp only [optE, h1, Option.bind_some, Lr.k]
end
end Go.Proofs.YtliaopbgkcdibaaDoor
