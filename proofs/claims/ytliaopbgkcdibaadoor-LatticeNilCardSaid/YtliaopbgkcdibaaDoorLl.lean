/- The reference of layer 3, in plain words: what its lattice answers; both News side by side. No program in sight. -/
import Derived.Test.YtliaopbgkcdibaaDoorLk
set_option linter.unusedVariables false
set_option linter.unusedSimpArgs false
namespace Go.Proofs.YtliaopbgkcdibaaDoor
section
variable {names : List ByteArray} {E : List TPair}
theorem rnew_b6 (k : Nat) : (forL (ref03_New.b6 k names) 0 names () = some (.go ()) ∧ ∀ j x, names[j]? = some x → ¬ nmBad names j x) ∨ (forL (ref03_New.b6 k names) 0 names () = some (.ret (none, 11)) ∧ ∃ j x, names[j]? = some x ∧ nmBad names j x) := by
  rcases forL_spec (body := ref03_New.b6 k names) (xs := names) (s := ()) (fun i _ => ∀ j x, j < i → names[j]? = some x → ¬ nmBad names j x) (fun y => y = (none, 11) ∧ ∃ j x, names[j]? = some x ∧ nmBad names j x) (fun j _ hj => absurd hj (Nat.not_lt_zero _)) (by
    rintro j x ⟨⟩ hx hP
    have hj := (List.getElem?_eq_some_iff.1 hx).1
    unfold ref03_New.b6
    have c2 : cutO names (0 : Int) (j : Int) = some (names.take j) := by unfold cutO; rw [if_pos (by omega)]; simp
    obtain ⟨v, v1, v2⟩ := find_neg k (names.take j) x
    have hbad : nmBad names j x ↔ (x = (⟨#[]⟩ : ByteArray) ∨ (30 : Int) < (x.size : Int) ∨ 0 ≤ v) := by
      unfold nmBad
      have : x ∈ names.take j ↔ 0 ≤ v := by
        constructor
        · intro h; exact Classical.byContradiction fun h1 => absurd h (v2.1 (by omega))
        · intro h; exact Classical.byContradiction fun h1 => by have := v2.2 h1; omega
      rw [this]
    by_cases hb : nmBad names j x
    · refine .inr ⟨(none, 11), ?_, rfl, j, x, hx, hb⟩
      rcases hbad.1 hb with h | h | h
      · simp only [decide_eq_true h, cond_true, Option.bind_some]
      · by_cases h0 : x = (⟨#[]⟩ : ByteArray)
        · simp only [decide_eq_true h0, cond_true, Option.bind_some]
        · simp only [decide_eq_false h0, decide_eq_true h, cond_true, cond_false, Option.bind_some]
      · by_cases h0 : x = (⟨#[]⟩ : ByteArray)
        · simp only [decide_eq_true h0, cond_true, Option.bind_some]
        · by_cases h1 : (30 : Int) < (x.size : Int)
          · simp only [decide_eq_false h0, decide_eq_true h1, cond_true, cond_false, Option.bind_some]
          · simp only [decide_eq_false h0, decide_eq_false h1, c2, v1, decide_eq_true h, cond_true, cond_false, Option.bind_some]
    · refine .inl ⟨(), ?_, fun i y hi hy => ?_⟩
      · have h3 := mt hbad.2 hb
        have h0 : ¬ x = (⟨#[]⟩ : ByteArray) := fun h => h3 (.inl h)
        have h1 : ¬ (30 : Int) < (x.size : Int) := fun h => h3 (.inr (.inl h))
        have h2 : ¬ 0 ≤ v := fun h => h3 (.inr (.inr h))
        simp only [decide_eq_false h0, decide_eq_false h1, c2, v1, decide_eq_false h2, cond_false, Option.bind_some]
      · rcases Nat.lt_succ_iff_lt_or_eq.1 hi with hi | rfl
        · exact hP i y hi hy
        · rw [hx] at hy; cases hy; exact hb) with ⟨⟨⟩, h1, h2⟩ | ⟨y, h1, rfl, h2⟩
  · exact .inl ⟨h1, fun j x hj => h2 j x (List.getElem?_eq_some_iff.1 hj).1 hj⟩
  · exact .inr ⟨h1, h2⟩
theorem rnew_b5 (k : Nat) : (forL (ref03_New.b5 k names) 0 E () = some (.go ()) ∧ ∀ e, e ∈ E → e.Low ∈ names ∧ e.High ∈ names) ∨ (forL (ref03_New.b5 k names) 0 E () = some (.ret (none, 11)) ∧ ∃ e, e ∈ E ∧ ¬ (e.Low ∈ names ∧ e.High ∈ names)) := by
  rcases forL_spec (body := ref03_New.b5 k names) (xs := E) (s := ()) (fun i _ => ∀ e, e ∈ E.take i → e.Low ∈ names ∧ e.High ∈ names) (fun y => y = (none, 11) ∧ ∃ e, e ∈ E ∧ ¬ (e.Low ∈ names ∧ e.High ∈ names)) (by simp) (by
    rintro j e ⟨⟩ he hP
    unfold ref03_New.b5
    obtain ⟨v, v1, v2⟩ := find_neg k names e.Low
    obtain ⟨w, w1, w2⟩ := find_neg k names e.High
    by_cases hv : v < 0
    · refine .inr ⟨(none, 11), ?_, rfl, e, List.mem_of_getElem? he, fun h => v2.1 hv h.1⟩
      simp only [v1, Option.bind_some, decide_eq_true hv, cond_true]
    · by_cases hw : w < 0
      · refine .inr ⟨(none, 11), ?_, rfl, e, List.mem_of_getElem? he, fun h => w2.1 hw h.2⟩
        simp only [v1, w1, Option.bind_some, decide_eq_false hv, decide_eq_true hw, cond_true, cond_false]
      · refine .inl ⟨(), ?_, fun d hd => ?_⟩
        · simp only [v1, w1, Option.bind_some, decide_eq_false hv, decide_eq_false hw, cond_false]
        · rw [take_succ he] at hd
          rcases List.mem_append.1 hd with hd | hd
          · exact hP d hd
          · rw [List.mem_singleton.1 hd]
            exact ⟨Classical.byContradiction fun h => hv (v2.2 h), Classical.byContradiction fun h => hw (w2.2 h)⟩) with ⟨⟨⟩, h1, h2⟩ | ⟨y, h1, rfl, h2⟩
  · exact .inl ⟨h1, by simpa using h2⟩
  · exact .inr ⟨h1, h2⟩
theorem rnew_b0 (k : Nat) {T : List (List Bool)} (h : RLat names.length (Way names E) ⟨([] : List ByteArray) ++ names, T⟩) :
    (forL (ref03_New.b0 k T names) 0 names () = some (.go ()) ∧ ∀ a b, a < names.length → b < names.length → ¬ Poor names.length (Way names E) a b) ∨
    (forL (ref03_New.b0 k T names) 0 names () = some (.ret (none, 12)) ∧ ∃ a b, a < names.length ∧ b < names.length ∧ Poor names.length (Way names E) a b) := by
  rcases forL_spec (body := ref03_New.b0 k T names) (xs := names) (s := ()) (fun i _ => ∀ a b, a < i → b < names.length → ¬ Poor names.length (Way names E) a b) (fun y => y = (none, 12) ∧ ∃ a b, a < names.length ∧ b < names.length ∧ Poor names.length (Way names E) a b) (fun a b ha => absurd ha (Nat.not_lt_zero _)) (by
    rintro i x ⟨⟩ hx hP
    have hi : i < names.length := (List.getElem?_eq_some_iff.1 hx).1
    unfold ref03_New.b0
    rcases forL_spec (body := ref03_New.b1 k i T names) (xs := names) (s := ()) (fun j _ => ∀ b, b < j → ¬ Poor names.length (Way names E) i b) (fun y => y = (none, 12) ∧ ∃ a b, a < names.length ∧ b < names.length ∧ Poor names.length (Way names E) a b) (fun b hb => absurd hb (Nat.not_lt_zero _)) (by
      rintro j y ⟨⟩ hy hQ
      have hj : j < names.length := (List.getElem?_eq_some_iff.1 hy).1
      obtain ⟨row, v, r1, r2, r3⟩ := h.at' i j hi hj
      obtain ⟨row', w, q1, q2, q3⟩ := h.at' j i hj hi
      simp only at r1 q1
      have fail : Poor names.length (Way names E) i j → ∃ a b, a < names.length ∧ b < names.length ∧ Poor names.length (Way names E) a b := fun hp => ⟨i, j, hi, hj, hp⟩
      have good : (¬ Poor names.length (Way names E) i j) → ∀ b, b < j + 1 → ¬ Poor names.length (Way names E) i b := fun hn b hb => by
        rcases Nat.lt_succ_iff_lt_or_eq.1 hb with hb | rfl
        · exact hQ b hb
        · exact hn
      unfold ref03_New.b1
      have cond1 : ∃ c : Bool, (bif !decide ((i : Int) = (j : Int)) then ((getO T (i : Int)).bind fun y4148 => ((getO y4148 (j : Int)).bind fun y4158 => (bif y4158 then ((getO T (j : Int)).bind fun y4166 => ((getO y4166 (i : Int)).bind fun y4176 => some y4176)) else some false))) else some false) = some c ∧ (c = true ↔ i ≠ j ∧ Way names E i j ∧ Way names E j i) := by
        by_cases hij : i = j
        · refine ⟨false, ?_, iff_of_false (by simp) fun h => h.1 hij⟩
          simp only [hij, decide_true, Bool.not_true, cond_false]
        · refine ⟨v && w, ?_, ?_⟩
          · have : ¬ (i : Int) = (j : Int) := by omega
            cases v <;> simp only [decide_eq_false this, Bool.not_false, cond_true, cond_false, getO_nat, r1, r2, q1, q2, Option.bind_some, Bool.true_and, Bool.false_and]
          · rw [Bool.and_eq_true, r3, q3]
            exact ⟨fun h => ⟨hij, h.1, h.2⟩, fun h => h.2⟩
      obtain ⟨c, c1, c2⟩ := cond1
      simp only [c1, Option.bind_some]
      cases c with
      | true =>
        refine .inr ⟨(none, 12), by simp only [cond_true], rfl, fail (.inl (c2.1 rfl))⟩
      | false =>
        simp only [cond_false]
        have h12 : ¬ (i ≠ j ∧ Way names E i j ∧ Way names E j i) := fun h => by have := c2.2 h; cases this
        rcases rjoin k h (fun a b hab => (way_lt hab).2) hi hj with ⟨m, m1, m2⟩ | ⟨m1, m2⟩
        · rcases rmeet k h hi hj with ⟨o, o1, o2⟩ | ⟨o1, o2⟩
          · refine .inl ⟨(), ?_, good ?_⟩
            · simp only [m1, o1, Option.bind_some, decide_eq_false (show ¬ (m : Int) < 0 by omega), decide_eq_false (show ¬ (o : Int) < 0 by omega), cond_false]
            · rintro (h | h | h)
              · exact h12 h
              · exact h ⟨m, m2⟩
              · exact h ⟨o, o2⟩
          · refine .inr ⟨(none, 12), ?_, rfl, fail (.inr (.inr o2))⟩
            simp only [m1, o1, Option.bind_some, decide_eq_false (show ¬ (m : Int) < 0 by omega), decide_eq_true (show (-1 : Int) < 0 by omega), cond_false, cond_true]
        · refine .inr ⟨(none, 12), ?_, rfl, fail (.inr (.inl m2))⟩
          simp only [m1, Option.bind_some, decide_eq_true (show (-1 : Int) < 0 by omega), cond_true]) with ⟨⟨⟩, g1, g2⟩ | ⟨y, g1, rfl, g2⟩
    · refine .inl ⟨(), by simp only [g1, Option.bind_some, Lr.k], fun a b ha hb => ?_⟩
      rcases Nat.lt_succ_iff_lt_or_eq.1 ha with ha | rfl
      · exact hP a b ha hb
      · exact g2 b hb
    · exact .inr ⟨(none, 12), by simp only [g1, Option.bind_some, Lr.k], rfl, g2⟩) with ⟨⟨⟩, h1, h2⟩ | ⟨y, h1, rfl, h2⟩
  · exact .inl ⟨h1, h2⟩
  · exact .inr ⟨h1, h2⟩
end
theorem rnew_all (k : Nat) (names : List ByteArray) (E : List TPair) (hn : names.length ≤ 16) (hE : E.length ≤ 64) :
    (∃ R, ref03_New k names E = some (some R, 0) ∧ RLat names.length (Way names E) R ∧ fits names E ∧ 0 < names.length ∧ ∀ a b, a < names.length → b < names.length → ¬ Poor names.length (Way names E) a b) ∨
    (ref03_New k names E = some (none, 12) ∧ fits names E ∧ (names.length = 0 ∨ ∃ a b, a < names.length ∧ b < names.length ∧ Poor names.length (Way names E) a b)) ∨
    (ref03_New k names E = some (none, 11) ∧ ¬ fits names E) := by
  have h16 : decide ((16 : Int) < (names.length : Int)) = false := decide_eq_false (by omega)
  have h64 : decide ((64 : Int) < (E.length : Int)) = false := decide_eq_false (by omega)
  unfold ref03_New
  rcases rnew_b6 (names := names) k with ⟨h1, h2⟩ | ⟨h1, j, x, h2, h3⟩
  · rcases rnew_b5 (names := names) (E := E) k with ⟨g1, g2⟩ | ⟨g1, e, g2, g3⟩
    · have hf : fits names E := ⟨h2, g2⟩
      obtain ⟨T, t1, t2, t3⟩ := ref_b2 k hf hn
      simp only [h16, h64, cond_false, Option.bind_some, h1, g1, t1, Lr.k, List.length_nil, Nat.zero_add, lim_ok (show names.length ≤ 4294967296 by omega)]
      by_cases h0 : names.length = 0
      · refine .inr (.inl ⟨?_, hf, .inl h0⟩)
        simp only [decide_eq_true (show (names.length : Int) = 0 by omega), cond_true]
      · have hR : RLat names.length (Way names E) ⟨([] : List ByteArray) ++ names, T⟩ := ⟨by simp, fun a b ha hb => by
          obtain ⟨row, r1, r2, r3⟩ := t3 a ha
          refine ⟨row, row[b]'(by omega), r1, List.getElem?_eq_getElem (by omega), ?_⟩
          rw [← r3 b, List.getElem?_eq_getElem (by omega), Option.some_inj]⟩
        have h00 : decide ((names.length : Int) = 0) = false := decide_eq_false (by omega)
        rcases rnew_b0 (names := names) k hR with ⟨q1, q2⟩ | ⟨q1, q2⟩
        · refine .inl ⟨_, ?_, hR, hf, by omega, q2⟩
          simp only [h00, cond_false, q1, Option.bind_some, Lr.k]
        · refine .inr (.inl ⟨?_, hf, .inr q2⟩)
          simp only [h00, cond_false, q1, Option.bind_some, Lr.k]
    · refine .inr (.inr ⟨?_, fun h => g3 (h.2 e g2)⟩)
      simp only [h16, h64, cond_false, Option.bind_some, h1, g1, Lr.k]
  · refine .inr (.inr ⟨?_, fun h => h.1 j x h2 h3⟩)
    simp only [h16, h64, cond_false, Option.bind_some, h1, Lr.k]
theorem rnew_many (k : Nat) (names : List ByteArray) (E : List TPair) (h : 16 < names.length ∨ 64 < E.length) : ref03_New k names E = some (none, 8) := by
  unfold ref03_New
  by_cases h1 : 16 < names.length
  · rw [decide_eq_true (show (16 : Int) < (names.length : Int) by omega)]; rfl
  · have h2 : 64 < E.length := h.resolve_left h1
    rw [decide_eq_false (show ¬ (16 : Int) < (names.length : Int) by omega), decide_eq_true (show (64 : Int) < (E.length : Int) by omega)]; rfl
/-- Both News, side by side. -/
theorem news (k : Nat) (hk : 1048577 ≤ k) (names : List ByteArray) (E : List TPair) :
    (∃ L R, lattice_New k names E = some (some L, 0) ∧ ref03_New k names E = some (some R, 0) ∧ Lat names.length (Way names E) L ∧ RLat names.length (Way names E) R ∧ L.names_ = names ∧ L.at_ = atL 0 names ∧ fits names E) ∨
    (∃ e : Int, e ≠ 0 ∧ lattice_New k names E = some (none, e) ∧ ref03_New k names E = some (none, e)) := by
  by_cases hs : names.length ≤ 16 ∧ E.length ≤ 64
  · rcases new_all k hk names E hs.1 hs.2 with ⟨L, g1, g2, g4, g5, g3⟩ | ⟨g1, g2, g3⟩ | ⟨g1, g2⟩ <;>
    rcases rnew_all k names E hs.1 hs.2 with ⟨M, k1, k2, k3, k4, k5⟩ | ⟨k1, k2, k3⟩ | ⟨k1, k2⟩
    · exact .inl ⟨L, M, g1, k1, g2, k2, g4, g5, g3⟩
    · exfalso
      rcases k3 with k3 | ⟨a, b, ha, hb, hp⟩
      · exact absurd g2.pos (by omega)
      · exact g2.rich ha hb hp
    · exact absurd g3 k2
    · exfalso
      rcases g3 with g3 | ⟨a, b, ha, hb, hp⟩
      · omega
      · exact k5 a b ha hb hp
    · exact .inr ⟨12, by decide, g1, k1⟩
    · exact absurd g2 k2
    · exact absurd k3 g2
    · exact absurd k2 g2
    · exact .inr ⟨11, by decide, g1, k1⟩
  · exact .inr ⟨8, by decide, new_many k names E (by omega), rnew_many k names E (by omega)⟩
end Go.Proofs.YtliaopbgkcdibaaDoor
