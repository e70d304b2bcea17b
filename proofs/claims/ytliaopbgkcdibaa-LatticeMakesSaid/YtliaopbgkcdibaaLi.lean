/- LatticeLaws, the plain law: the least above and the greatest below turn, group and swallow, and fit what stands below what. No program in sight. -/
import Derived.Test.YtliaopbgkcdibaaLh
set_option linter.unusedVariables false
set_option linter.unusedSimpArgs false
namespace Go.Proofs.Ytliaopbgkcdibaa
section
variable {n : Nat} {r : Nat → Nat → Prop} {L : Tlattice_Lattice}
theorem IsJoin.comm {a b c : Nat} (h : IsJoin n r a b c) : IsJoin n r b a c := ⟨h.1, h.2.2.1, h.2.1, fun d h1 h2 => h.2.2.2 d h2 h1⟩
theorem IsMeet.comm {a b c : Nat} (h : IsMeet n r a b c) : IsMeet n r b a c := ⟨h.1, h.2.2.1, h.2.1, fun d hd h1 h2 => h.2.2.2 d hd h2 h1⟩
theorem Lat.join_assoc (h : Lat n r L) (tr : ∀ a b c, r a b → r b c → r a c) {a b c j x y z : Nat} (h1 : IsJoin n r a b j) (h2 : IsJoin n r j c x) (h3 : IsJoin n r b c y) (h4 : IsJoin n r a y z) : x = z :=
  h.anti h2.1 h4.1 (h2.2.2.2 z (h1.2.2.2 z h4.2.1 (tr _ _ _ h3.2.1 h4.2.2.1)) (tr _ _ _ h3.2.2.1 h4.2.2.1))
    (h4.2.2.2 x (tr _ _ _ h1.2.1 h2.2.1) (h3.2.2.2 x (tr _ _ _ h1.2.2.1 h2.2.1) h2.2.2.1))
theorem Lat.meet_assoc (h : Lat n r L) (tr : ∀ a b c, r a b → r b c → r a c) {a b c j x y z : Nat} (h1 : IsMeet n r a b j) (h2 : IsMeet n r j c x) (h3 : IsMeet n r b c y) (h4 : IsMeet n r a y z) : x = z :=
  h.anti h2.1 h4.1 (h4.2.2.2 x h2.1 (tr _ _ _ h2.2.1 h1.2.1) (h3.2.2.2 x h2.1 (tr _ _ _ h2.2.1 h1.2.2.1) h2.2.2.1))
    (h2.2.2.2 z h4.1 (h1.2.2.2 z h4.1 h4.2.1 (tr _ _ _ h4.2.2.1 h3.2.1)) (tr _ _ _ h4.2.2.1 h3.2.2.1))
theorem dec_iff {a b : Nat} {p : Prop} (h : a = b ↔ p) : decide ((a : Int) = (b : Int)) = true ↔ p := by
  rw [decide_eq_true_iff, ← h]; omega
end
section
variable {names : List ByteArray} {r : Nat → Nat → Prop} {L : Tlattice_Lattice}
theorem laws_b2 (k : Nat) (h : Lat names.length r L) (tr : ∀ a b c, r a b → r b c → r a c) (e : Int) {i j jn mt : Nat} (hi : i < names.length) (hj : j < names.length) (h1 : IsJoin names.length r i j jn) (h2 : IsMeet names.length r i j mt) :
    forL (law03_LatticeLaws.b2 k (some L, e) (jn : Int) j i (mt : Int)) 0 names () = some (.go ()) := by
  obtain ⟨⟨⟩, g1, _⟩ := forL_end (body := law03_LatticeLaws.b2 k (some L, e) (jn : Int) j i (mt : Int)) (xs := names) (s := ()) (fun _ _ => True) trivial (by
    rintro c y ⟨⟩ hy _
    have hc : c < names.length := (List.getElem?_eq_some_iff.1 hy).1
    obtain ⟨x, x1, x2⟩ := join_in k h h1.1 hc
    obtain ⟨y, y1, y2⟩ := join_in k h hj hc
    obtain ⟨z, z1, z2⟩ := join_in k h hi y2.1
    obtain ⟨x', x1', x2'⟩ := meet_in k h h2.1 hc
    obtain ⟨y', y1', y2'⟩ := meet_in k h hj hc
    obtain ⟨z', z1', z2'⟩ := meet_in k h hi y2'.1
    obtain ⟨v, v1, v2⟩ := leq_in k h hi hc
    obtain ⟨w, w1, w2⟩ := leq_in k h hj hc
    obtain ⟨u, u1, u2⟩ := leq_in k h h1.1 hc
    obtain rfl := h.join_assoc tr h1 x2 y2 z2
    obtain rfl := h.meet_assoc tr h2 x2' y2' z2'
    unfold law03_LatticeLaws.b2
    refine ⟨(), ?_, trivial⟩
    simp only [x1, y1, z1, x1', y1', z1', v1, w1, u1, Option.bind_some, decide_true, Bool.not_true, cond_false]
    cases v with
    | false => simp only [cond_false, Option.bind_some]
    | true =>
      cases w with
      | false => cases u <;> simp only [cond_true, cond_false, Option.bind_some, beq_self_eq_true, Bool.not_true, Bool.false_beq, Bool.not_false, Bool.not_not]
      | true =>
        obtain rfl := u2.2 (h1.2.2.2 c (v2.1 rfl) (w2.1 rfl))
        simp only [cond_true, cond_false, Option.bind_some, beq_self_eq_true, Bool.not_true])
  exact g1
theorem laws_b1 (k : Nat) (h : Lat names.length r L) (rf : ∀ a, a < names.length → r a a) (tr : ∀ a b c, r a b → r b c → r a c) (e : Int) {i : Nat} (hi : i < names.length) :
    forL (law03_LatticeLaws.b1 k (some L, e) i names) 0 names () = some (.go ()) := by
  obtain ⟨⟨⟩, g1, _⟩ := forL_end (body := law03_LatticeLaws.b1 k (some L, e) i names) (xs := names) (s := ()) (fun _ _ => True) trivial (by
    rintro j y ⟨⟩ hy _
    have hj : j < names.length := (List.getElem?_eq_some_iff.1 hy).1
    obtain ⟨x, x1, x2⟩ := join_in k h hi hj
    obtain ⟨m, m1, m2⟩ := meet_in k h hi hj
    obtain ⟨x', x1', x2'⟩ := join_in k h hj hi
    obtain ⟨m', m1', m2'⟩ := meet_in k h hj hi
    obtain ⟨v, v1, v2⟩ := leq_in k h hi hj
    obtain ⟨s, s1, s2⟩ := join_in k h hi m2.1
    obtain ⟨t, t1, t2⟩ := meet_in k h hi x2.1
    obtain rfl := h.joinu x2 x2'.comm
    obtain rfl := h.meetu m2 m2'.comm
    rw [show s = i from h.anti s2.1 hi (s2.2.2.2 i (rf i hi) m2.2.1) s2.2.1] at s1
    rw [show t = i from h.anti t2.1 hi t2.2.1 (t2.2.2.2 i hi (rf i hi) x2.2.1)] at t1
    have e1 := beq_of_iff v2 (dec_iff (a := x) (b := j) ⟨fun e => e ▸ x2.2.1, fun hr => h.anti x2.1 hj (x2.2.2.2 j hr (rf j hj)) x2.2.2.1⟩)
    have e2 := beq_of_iff v2 (dec_iff (a := m) (b := i) ⟨fun e => e ▸ m2.2.2.1, fun hr => h.anti m2.1 hi m2.2.1 (m2.2.2.2 i hi (rf i hi) hr)⟩)
    unfold law03_LatticeLaws.b1
    refine ⟨(), ?_, trivial⟩
    simp only [x1, m1, x1', m1', v1, s1, t1, Option.bind_some, decide_true, Bool.not_true, cond_false, e1, e2, laws_b2 k h tr e hi hj x2 m2, Lr.k])
  exact g1
theorem laws_b0 (k : Nat) (h : Lat names.length r L) (rf : ∀ a, a < names.length → r a a) (tr : ∀ a b c, r a b → r b c → r a c) (e : Int) :
    forL (law03_LatticeLaws.b0 k (some L, e) names) 0 names () = some (.go ()) := by
  obtain ⟨⟨⟩, g1, _⟩ := forL_end (body := law03_LatticeLaws.b0 k (some L, e) names) (xs := names) (s := ()) (fun _ _ => True) trivial (by
    rintro i y ⟨⟩ hy _
    have hi : i < names.length := (List.getElem?_eq_some_iff.1 hy).1
    obtain ⟨x, x1, x2⟩ := join_in k h hi hi
    obtain ⟨m, m1, m2⟩ := meet_in k h hi hi
    obtain ⟨b, b1, b2, b3⟩ := bottom_in k h tr
    obtain ⟨t, t1, t2, t3⟩ := top_in k h tr
    obtain ⟨v, v1, v2⟩ := leq_in k h b2 hi
    obtain ⟨w, w1, w2⟩ := leq_in k h hi t2
    rw [show x = i from h.anti x2.1 hi (x2.2.2.2 i (rf i hi) (rf i hi)) x2.2.1] at x1
    rw [show m = i from h.anti m2.1 hi m2.2.1 (m2.2.2.2 i hi (rf i hi) (rf i hi))] at m1
    obtain rfl := v2.2 (b3 _ hi)
    obtain rfl := w2.2 (t3 _ hi)
    unfold law03_LatticeLaws.b0
    refine ⟨(), ?_, trivial⟩
    simp only [x1, m1, b1, t1, v1, w1, Option.bind_some, decide_true, Bool.not_true, cond_false, laws_b1 k h rf tr e hi, Lr.k])
  exact g1
end
theorem LatticeLaws_law (names : List ByteArray) (E : List TPair) : ∃ k, law03_LatticeLaws k names E = some true := by
  refine ⟨1048577, ?_⟩
  unfold law03_LatticeLaws
  obtain ⟨b, h1, h2⟩ := few_spec 1048577 names E
  have hal := alive_up 1048577 (by omega)
  simp only [h1, Option.bind_some]
  cases b with
  | false => simp only [Bool.not_false, cond_true, Option.bind_some, hal]
  | true =>
    obtain ⟨hn, hE⟩ := h2 rfl
    simp only [Bool.not_true, cond_false]
    by_cases hs : names.length ≤ 16 ∧ E.length ≤ 64
    · rcases new_all 1048577 (Nat.le_refl _) names E hs.1 hs.2 with ⟨L, g1, g2, _, _, g3⟩ | ⟨g1, g2, g3⟩ | ⟨g1, g2⟩
      · simp only [g1, Option.bind_some, decide_true, Bool.not_true, cond_false, laws_b0 1048577 g2 (fun a ha => .refl a ha) (fun _ _ _ => Way.trans), Lr.k, hal]
      · simp only [g1, Option.bind_some, show decide ((12 : Int) = 0) = false from rfl, Bool.not_false, cond_true, Option.isNone_none, hal]
      · simp only [g1, Option.bind_some, show decide ((11 : Int) = 0) = false from rfl, Bool.not_false, cond_true, Option.isNone_none, hal]
    · simp only [new_many _ names E (by omega), Option.bind_some, show decide ((8 : Int) = 0) = false from rfl, Bool.not_false, cond_true, Option.isNone_none, hal]
end Go.Proofs.Ytliaopbgkcdibaa
