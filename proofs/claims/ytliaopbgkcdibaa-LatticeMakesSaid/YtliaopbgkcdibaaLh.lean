/- LatticeTurned, the plain law: with all edges the other way round levels are a lattice just if they were one, and all answers turn round. No program in sight. -/
import Derived.Test.YtliaopbgkcdibaaLg
set_option linter.unusedVariables false
set_option linter.unusedSimpArgs false
namespace Go.Proofs.Ytliaopbgkcdibaa
theorem beq_of_iff {a b : Bool} {p : Prop} (h1 : a = true ↔ p) (h2 : b = true ↔ p) : (a == b) = true := by
  cases a <;> cases b <;> simp_all
theorem turned_back (k : Nat) (E : List TPair) (hE : E.length ≤ 80) : forL (law03_LatticeTurned.b2 k) 0 E ([] : List TPair) = some (.go (back E)) := by
  obtain ⟨s, h1, h2⟩ := forL_end (body := law03_LatticeTurned.b2 k) (xs := E) (s := ([] : List TPair)) (fun i s => s = back (E.take i)) (by simp [back]) (by
    rintro j x s hx rfl
    refine ⟨_, ?_, rfl⟩
    unfold law03_LatticeTurned.b2
    have : (back (E.take j)).length ≤ 80 := by simp [back]; omega
    rw [lim_ok (by simp; omega), take_succ hx]
    simp [back])
  rw [h1, h2, List.take_length]
theorem turned_loop (k : Nat) {names : List ByteArray} {E : List TPair} {L M : Tlattice_Lattice} (hL : Lat names.length (Way names E) L) (hM : Lat names.length (Way names (back E)) M) (e f : Int) : forL (law03_LatticeTurned.b0 k (some L, e) (some M, f) names) 0 names () = some (.go ()) := by
  obtain ⟨⟨⟩, h1, _⟩ := forL_end (body := law03_LatticeTurned.b0 k (some L, e) (some M, f) names) (xs := names) (s := ()) (fun _ _ => True) trivial (by
    rintro i x ⟨⟩ hx _
    have hi : i < names.length := (List.getElem?_eq_some_iff.1 hx).1
    unfold law03_LatticeTurned.b0
    obtain ⟨⟨⟩, g1, _⟩ := forL_end (body := law03_LatticeTurned.b1 k (some L, e) i (some M, f)) (xs := names) (s := ()) (fun _ _ => True) trivial (by
      rintro j y ⟨⟩ hy _
      have hj : j < names.length := (List.getElem?_eq_some_iff.1 hy).1
      unfold law03_LatticeTurned.b1
      obtain ⟨v, v1, v2⟩ := leq_in k hL hi hj
      obtain ⟨v', v1', v2'⟩ := leq_in k hM hj hi
      obtain ⟨c, c1, c2⟩ := join_in k hL hi hj
      obtain ⟨c', c1', c2'⟩ := meet_in k hM hi hj
      obtain ⟨d, d1, d2⟩ := meet_in k hL hi hj
      obtain ⟨d', d1', d2'⟩ := join_in k hM hi hj
      have e1 := beq_of_iff v2 (v2'.trans (way_back _ _))
      have e2 : c = c' := hL.joinu c2 (meet_back.1 c2')
      have e3 : d = d' := hL.meetu d2 (join_back.1 d2')
      subst e2 e3
      refine ⟨(), ?_, trivial⟩
      simp only [v1, v1', c1, c1', d1, d1', Option.bind_some, e1, Bool.not_true, cond_false, decide_true])
    exact ⟨(), by simp only [g1, Option.bind_some, Lr.k], trivial⟩)
  exact h1
theorem LatticeTurned_law (names : List ByteArray) (E : List TPair) : ∃ k, law03_LatticeTurned k names E = some true := by
  refine ⟨1048577, ?_⟩
  unfold law03_LatticeTurned
  obtain ⟨b, h1, h2⟩ := few_spec 1048577 names E
  have hal := alive_up 1048577 (by omega)
  simp only [h1, Option.bind_some]
  cases b with
  | false => simp only [Bool.not_false, cond_true, Option.bind_some, hal]
  | true =>
    obtain ⟨hn, hE⟩ := h2 rfl
    simp only [Bool.not_true, cond_false, turned_back _ E hE, Option.bind_some, Lr.k]
    by_cases hs : names.length ≤ 16 ∧ E.length ≤ 64
    · have hb : (back E).length ≤ 64 := by simp [back]; omega
      rcases new_all 1048577 (Nat.le_refl _) names E hs.1 hs.2 with ⟨L, g1, g2, _, _, g3⟩ | ⟨g1, g2, g3⟩ | ⟨g1, g2⟩ <;>
      rcases new_all 1048577 (Nat.le_refl _) names (back E) hs.1 hb with ⟨M, k1, k2, _, _, k3⟩ | ⟨k1, k2, k3⟩ | ⟨k1, k2⟩
      · obtain ⟨b, b1, b2, b3⟩ := bottom_in 1048577 g2 (fun _ _ _ => Way.trans)
        obtain ⟨b', b1', b2', b3'⟩ := bottom_in 1048577 k2 (fun _ _ _ => Way.trans)
        obtain ⟨t, t1, t2, t3⟩ := top_in 1048577 g2 (fun _ _ _ => Way.trans)
        obtain ⟨t', t1', t2', t3'⟩ := top_in 1048577 k2 (fun _ _ _ => Way.trans)
        have e1 : b = t' := g2.anti b2 t2' (b3 _ t2') ((way_back _ _).1 (t3' _ b2))
        have e2 : t = b' := g2.anti t2 b2' ((way_back _ _).1 (b3' _ t2)) (t3 _ b2')
        subst e1 e2
        simp only [g1, k1, Option.bind_some, decide_true, Bool.not_true, cond_false, beq_self_eq_true, Option.isNone_some, turned_loop 1048577 g2 k2, Lr.k, b1, b1', t1, t1', hal, cond_true]
      · exfalso
        rcases k3 with k3 | ⟨a, b, ha, hb, hp⟩
        · exact absurd g2.pos (by omega)
        · exact g2.rich ha hb (poor_back.1 hp)
      · exact absurd (fits_back.2 g3) k2
      · exfalso
        rcases g3 with g3 | ⟨a, b, ha, hb, hp⟩
        · exact absurd k2.pos (by omega)
        · exact k2.rich ha hb (poor_back.2 hp)
      · simp only [g1, k1, Option.bind_some, decide_true, Bool.not_true, cond_false, beq_self_eq_true, Option.isNone_none, cond_true, hal]
      · exact absurd (fits_back.2 g2) k2
      · exact absurd (fits_back.1 k3) g2
      · exact absurd (fits_back.1 k2) g2
      · simp only [g1, k1, Option.bind_some, decide_true, Bool.not_true, cond_false, beq_self_eq_true, Option.isNone_none, cond_true, hal]
    · have h3 : 16 < names.length ∨ 64 < E.length := by omega
      simp only [new_many _ names E h3, new_many _ names (back E) (by simpa [back] using h3), Option.bind_some, decide_true, Bool.not_true, cond_false, beq_self_eq_true, Option.isNone_none, cond_true, hal]
end Go.Proofs.Ytliaopbgkcdibaa
