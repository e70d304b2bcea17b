/- LatticeEdges, the plain law: in which order edges stand, and edges that follow from others, change nothing. No program in sight. -/
import Derived.Test.YtliaopbgkcdibaaLe
set_option linter.unusedVariables false
set_option linter.unusedSimpArgs false
namespace Go.Proofs.Ytliaopbgkcdibaa

/-- An edge that follows from two. -/
def Follows (E : List TPair) (d : TPair) : Prop := d ∈ E ∨ ∃ e f, e ∈ E ∧ f ∈ E ∧ e.High = f.Low ∧ d = ⟨e.Low, f.High⟩
theorem fits_follow {names : List ByteArray} {E E' : List TPair} (h1 : ∀ e, e ∈ E → e ∈ E') (h2 : ∀ d, d ∈ E' → Follows E d) : fits names E ↔ fits names E' := by
  constructor
  · rintro ⟨h3, h4⟩
    refine ⟨h3, fun d hd => ?_⟩
    rcases h2 d hd with h | ⟨e, f, he, hf, _, rfl⟩
    · exact h4 d h
    · exact ⟨(h4 e he).1, (h4 f hf).2⟩
  · rintro ⟨h3, h4⟩
    exact ⟨h3, fun e he => h4 e (h1 e he)⟩
theorem way_follow {names : List ByteArray} {E E' : List TPair} (h1 : ∀ e, e ∈ E → e ∈ E') (h2 : ∀ d, d ∈ E' → Follows E d) (hf : fits names E) (a b : Nat) : Way names E a b ↔ Way names E' a b := by
  constructor
  · intro h
    induction h with
    | refl h => exact .refl _ h
    | step _ k ih =>
      obtain ⟨e, he, k1, k2⟩ := k
      exact ih.step ⟨e, h1 e he, k1, k2⟩
  · intro h
    induction h with
    | refl h => exact .refl _ h
    | step _ k ih =>
      obtain ⟨d, hd, k1, k2⟩ := k
      rcases h2 d hd with h | ⟨e, f, he, hf', heq, rfl⟩
      · exact ih.step ⟨d, h, k1, k2⟩
      · obtain ⟨c, hc⟩ := List.mem_iff_getElem?.1 (hf.2 e he).2
        exact (ih.step ⟨e, he, k1, hc⟩).step ⟨f, hf', by rw [← heq]; exact hc, k2⟩
theorem edges_more (k : Nat) (E s0 : List TPair) (hE : E.length ≤ 80) (h0 : s0.length = E.length) : ∃ s, forL (law03_LatticeEdges.b2 k E) 0 E s0 = some (.go s) ∧ (∀ d, d ∈ s → d ∈ s0 ∨ Follows E d) ∧ (∀ d, d ∈ s0 → d ∈ s) ∧ E.length ≤ s.length ∧ (s.length ≤ 64 ∨ s.length ≤ E.length) := by
  obtain ⟨s, h1, h2, h3, h4, h5⟩ := forL_end (body := law03_LatticeEdges.b2 k E) (xs := E) (s := s0)
    (fun _ s => (∀ d, d ∈ s → d ∈ s0 ∨ Follows E d) ∧ (∀ d, d ∈ s0 → d ∈ s) ∧ E.length ≤ s.length ∧ (s.length ≤ 64 ∨ s.length ≤ E.length)) ⟨fun d h => .inl h, fun d h => h, by omega, by omega⟩ (by
      rintro j e s he hP
      have heE := List.mem_of_getElem? he
      unfold law03_LatticeEdges.b2
      obtain ⟨t, g1, g2⟩ := forL_end (body := law03_LatticeEdges.b3 k e) (xs := E) (s := s)
        (fun _ s => (∀ d, d ∈ s → d ∈ s0 ∨ Follows E d) ∧ (∀ d, d ∈ s0 → d ∈ s) ∧ E.length ≤ s.length ∧ (s.length ≤ 64 ∨ s.length ≤ E.length)) hP (by
          rintro i f u hf ⟨q1, q2, q3, q4⟩
          have hfE := List.mem_of_getElem? hf
          unfold law03_LatticeEdges.b3
          by_cases hh : e.High = f.Low
          · by_cases hl : (u.length : Int) < 64
            · refine ⟨u ++ [⟨e.Low, f.High⟩], ?_, ?_, ?_, ?_, ?_⟩
              · simp only [decide_eq_true hh, cond_true, Option.bind_some, decide_eq_true hl, List.length_singleton, lim_ok (show u.length + 1 ≤ 4294967296 by omega)]
              · intro d hd
                rcases List.mem_append.1 hd with hd | hd
                · exact q1 d hd
                · have : d = ⟨e.Low, f.High⟩ := by simpa using hd
                  exact .inr (.inr ⟨e, f, heE, hfE, hh, this⟩)
              · exact fun d hd => List.mem_append_left _ (q2 d hd)
              · simp; omega
              · left; simp; omega
            · refine ⟨u, ?_, q1, q2, q3, q4⟩
              simp only [decide_eq_true hh, cond_true, Option.bind_some, decide_eq_false hl, cond_false]
          · refine ⟨u, ?_, q1, q2, q3, q4⟩
            simp only [decide_eq_false hh, cond_false, Option.bind_some])
      exact ⟨t, by simp only [g1, Option.bind_some, Lr.k], g2⟩)
  exact ⟨s, h1, h2, h3, h4, h5⟩
theorem edges_loop (k : Nat) {names : List ByteArray} {r : Nat → Nat → Prop} {L : Tlattice_Lattice} (h : Lat names.length r L) (e : Int) : forL (law03_LatticeEdges.b0 k (some L, e) (some L, e) names) 0 names () = some (.go ()) := by
  obtain ⟨⟨⟩, h1, _⟩ := forL_end (body := law03_LatticeEdges.b0 k (some L, e) (some L, e) names) (xs := names) (s := ()) (fun _ _ => True) trivial (by
    rintro i x ⟨⟩ hx _
    have hi : i < names.length := (List.getElem?_eq_some_iff.1 hx).1
    unfold law03_LatticeEdges.b0
    obtain ⟨⟨⟩, g1, _⟩ := forL_end (body := law03_LatticeEdges.b1 k (some L, e) i (some L, e)) (xs := names) (s := ()) (fun _ _ => True) trivial (by
      rintro j y ⟨⟩ hy _
      have hj : j < names.length := (List.getElem?_eq_some_iff.1 hy).1
      unfold law03_LatticeEdges.b1
      obtain ⟨v, v1, _⟩ := leq_in k h hi hj
      obtain ⟨c, c1, _⟩ := join_in k h hi hj
      obtain ⟨d, d1, _⟩ := meet_in k h hi hj
      refine ⟨(), ?_, trivial⟩
      simp only [v1, c1, d1, Option.bind_some, beq_self_eq_true, Bool.not_true, cond_false, decide_true])
    exact ⟨(), by simp only [g1, Option.bind_some, Lr.k], trivial⟩)
  exact h1
theorem LatticeEdges_law (names : List ByteArray) (E : List TPair) (turn : Int) : ∃ k, law03_LatticeEdges k names E turn = some true := by
  refine ⟨1048577, ?_⟩
  unfold law03_LatticeEdges
  obtain ⟨b, h1, h2⟩ := few_spec 1048577 names E
  have hal := alive_up 1048577 (by omega)
  simp only [h1, Option.bind_some]
  cases b with
  | false => simp only [Bool.not_false, cond_true, Option.bind_some, hal]
  | true =>
    obtain ⟨hn, hE⟩ := h2 rfl
    by_cases h0 : (E.length : Int) = 0
    · simp only [Bool.not_true, cond_false, decide_eq_true h0, Option.bind_some, cond_true, hal]
    · simp only [Bool.not_true, cond_false, decide_eq_false h0, Option.bind_some]
      have hpos : 0 < E.length := by omega
      have r1 : remO turn (E.length : Int) = some (turn.tmod E.length) := by unfold remO; rw [if_neg h0]
      have b1 : -(E.length : Int) < turn.tmod E.length ∧ turn.tmod E.length < E.length := by
        have := Int.tmod_lt_of_pos turn (show (0 : Int) < E.length by omega)
        have := Int.lt_tmod_of_pos turn (show (0 : Int) < E.length by omega)
        omega
      have w1 : w64 (turn.tmod E.length + (E.length : Int)) = turn.tmod E.length + E.length := w64_id (by omega)
      have r2 : remO (turn.tmod E.length + (E.length : Int)) (E.length : Int) = some ((turn.tmod E.length + E.length).tmod E.length) := by unfold remO; rw [if_neg h0]
      obtain ⟨t, ht, ht2⟩ : ∃ t : Nat, (turn.tmod E.length + (E.length : Int)).tmod E.length = (t : Int) ∧ t < E.length := by
        have h3 := Int.tmod_nonneg (E.length : Int) (show 0 ≤ turn.tmod E.length + (E.length : Int) by omega)
        have h4 := Int.tmod_lt_of_pos (turn.tmod E.length + (E.length : Int)) (show (0 : Int) < E.length by omega)
        exact ⟨((turn.tmod E.length + (E.length : Int)).tmod E.length).toNat, by omega, by omega⟩
      have c1 : cutO E (t : Int) (E.length : Int) = some (E.drop t) := by unfold cutO; rw [if_pos (by omega)]; simp
      have c2 : cutO E (0 : Int) (t : Int) = some (E.take t) := by unfold cutO; rw [if_pos (by omega)]; simp
      simp only [r1, w1, r2, ht, c1, c2, Option.bind_some]
      rw [lim_ok (by simp; omega)]
      simp only [Option.bind_some]
      rw [lim_ok (by simp; omega)]
      simp only [Option.bind_some, List.nil_append]
      obtain ⟨s, s1, s2, s3, s4, s5⟩ := edges_more 1048577 E (E.drop t ++ E.take t) hE (by simp; omega)
      have hmem : ∀ d, d ∈ E ↔ d ∈ E.drop t ++ E.take t := fun d => by
        rw [List.mem_append, or_comm, ← List.mem_append, List.take_append_drop]
      have hsub : ∀ e, e ∈ E → e ∈ s := fun e he => s3 e ((hmem e).1 he)
      have hfol : ∀ d, d ∈ s → Follows E d := fun d hd => (s2 d hd).elim (fun h => .inl ((hmem d).2 h)) id
      have hsame : lattice_New 1048577 names E = lattice_New 1048577 names s := by
        by_cases h64 : E.length ≤ 64
        · exact new_same _ (Nat.le_refl _) names E s h64 (by omega) (fits_follow hsub hfol) (fun hf => way_follow hsub hfol hf)
        · rw [new_many _ names E (.inr (by omega)), new_many _ names s (.inr (by omega))]
      simp only [s1, Option.bind_some, Lr.k, ← hsame]
      have fin : ∀ y, lattice_New 1048577 names E = some y → (y.1 = none ∨ ∃ L r, y.1 = some L ∧ Lat names.length r L) → ((lattice_New 1048577 names E).bind fun y687 => ((lattice_New 1048577 names E).bind fun y700 => (((bif !decide (y687.2 = y700.2) then some true else some (!(y687.1.isNone == y700.1.isNone)))).bind fun m709 => (bif m709 then some false else (bif y687.1.isNone then ((law03_alive 1048577).bind fun y714 => some y714) else ((forL (law03_LatticeEdges.b0 1048577 y687 y700 names) 0 names ()).bind (Lr.k (fun r => some r) (fun s872 => ((law03_alive 1048577).bind fun y876 => some y876))))))))) = some true := by
        rintro ⟨o, e⟩ hy hc
        simp only [hy, Option.bind_some, decide_true, Bool.not_true, cond_false, beq_self_eq_true]
        rcases hc with rfl | ⟨L, r, rfl, hL⟩
        · simp only [Option.isNone_none, cond_true, hal, Option.bind_some]
        · simp only [Option.isNone_some, cond_false, edges_loop 1048577 hL e, Option.bind_some, Lr.k, hal]
      by_cases hs : names.length ≤ 16 ∧ E.length ≤ 64
      · rcases new_all 1048577 (Nat.le_refl _) names E hs.1 hs.2 with ⟨L, g1, g2, _⟩ | ⟨g1, _⟩ | ⟨g1, _⟩
        · exact fin _ g1 (.inr ⟨L, _, rfl, g2⟩)
        · exact fin _ g1 (.inl rfl)
        · exact fin _ g1 (.inl rfl)
      · exact fin _ (new_many _ names E (by omega)) (.inl rfl)
end Go.Proofs.Ytliaopbgkcdibaa
