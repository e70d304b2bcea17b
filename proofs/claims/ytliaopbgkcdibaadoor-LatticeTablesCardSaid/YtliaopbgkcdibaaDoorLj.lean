/- The reference of layer 3, in plain words: its ways of edges are all ways; what it answers. No program in sight. -/
import Derived.Test.YtliaopbgkcdibaaDoorLg
set_option linter.unusedVariables false
set_option linter.unusedSimpArgs false
namespace Go.Proofs.YtliaopbgkcdibaaDoor

theorem find_spec (k : Nat) (l : List ByteArray) (x : ByteArray) : (∃ i : Nat, ref03_Find k l x = some (i : Int) ∧ l[i]? = some x) ∨ (ref03_Find k l x = some (-1) ∧ x ∉ l) := by
  rcases forL_spec (body := ref03_Find.b0 k x) (xs := l) (s := ()) (fun i _ => x ∉ l.take i) (fun y => ∃ i : Nat, y = (i : Int) ∧ l[i]? = some x) (by simp) (by
    rintro j y ⟨⟩ hy hP
    unfold ref03_Find.b0
    by_cases h : y = x
    · subst h
      exact .inr ⟨(j : Int), by simp only [decide_true, cond_true], j, rfl, hy⟩
    · refine .inl ⟨(), by simp only [decide_eq_false h, cond_false], ?_⟩
      rw [take_succ hy, List.mem_append]
      rintro (h1 | h1)
      · exact hP h1
      · exact h ((List.mem_singleton.1 h1).symm)) with ⟨⟨⟩, h1, h2⟩ | ⟨y, h1, i, rfl, h2⟩
  · refine .inr ⟨?_, by simpa using h2⟩
    unfold ref03_Find
    simp only [h1, Option.bind_some, Lr.k]
  · refine .inl ⟨i, ?_, h2⟩
    unfold ref03_Find
    simp only [h1, Option.bind_some, Lr.k]
theorem find_at (k : Nat) {l : List ByteArray} (hd : Apart l) {i : Nat} {x : ByteArray} (h : l[i]? = some x) : ref03_Find k l x = some (i : Int) := by
  rcases find_spec k l x with ⟨j, h1, h2⟩ | ⟨_, h1⟩
  · rw [h1, hd i j x h h2]
  · exact absurd (List.mem_of_getElem? h) h1
theorem find_not (k : Nat) {l : List ByteArray} {x : ByteArray} (h : x ∉ l) : ref03_Find k l x = some (-1) := by
  rcases find_spec k l x with ⟨j, _, h2⟩ | ⟨h1, _⟩
  · exact absurd (List.mem_of_getElem? h2) h
  · exact h1
theorem find_neg (k : Nat) (l : List ByteArray) (x : ByteArray) : ∃ v : Int, ref03_Find k l x = some v ∧ (v < 0 ↔ x ∉ l) := by
  rcases find_spec k l x with ⟨j, h1, h2⟩ | ⟨h1, h2⟩
  · exact ⟨_, h1, iff_of_false (by omega) (fun h => h (List.mem_of_getElem? h2))⟩
  · exact ⟨_, h1, iff_of_true (by omega) h2⟩

/-! ### Rows of bools -/
theorem set_true {l : List Bool} {j : Nat} (hj : j < l.length) (b : Nat) : (l.set j true)[b]? = some true ↔ b = j ∨ l[b]? = some true := by
  rw [List.getElem?_set]
  by_cases h : j = b
  · subst h; simp [hj]
  · simp [h, Ne.symm h]
theorem count_grow : ∀ (l m : List Bool), l.length = m.length → (∀ b : Nat, l[b]? = some true → m[b]? = some true) → l.count true ≤ m.count true ∧ ((∃ b : Nat, m[b]? = some true ∧ ¬ l[b]? = some true) → l.count true < m.count true)
  | [], [], _, _ => ⟨Nat.le_refl _, fun ⟨b, h, _⟩ => by simp at h⟩
  | [], _ :: _, h, _ => by simp at h
  | _ :: _, [], h, _ => by simp at h
  | x :: l, y :: m, h, hs => by
    have ih := count_grow l m (by simpa using h) (fun b hb => by simpa using hs (b + 1) (by simpa using hb))
    have h0 : x = true → y = true := fun hx => by simpa using hs 0 (by simp [hx])
    have c0 : x.toNat ≤ y.toNat := by cases x <;> cases y <;> simp_all
    have cx : (x :: l).count true = l.count true + x.toNat := by cases x <;> simp
    have cy : (y :: m).count true = m.count true + y.toNat := by cases y <;> simp
    rw [cx, cy]
    refine ⟨by omega, ?_⟩
    rintro ⟨b, hb1, hb2⟩
    cases b with
    | zero =>
      have hy : y = true := by simpa using hb1
      have hx : x = false := by
        cases hx : x
        · rfl
        · rw [hx] at hb2; exact absurd (by simp) hb2
      have := ih.1
      rw [hx, hy]
      show l.count true + 0 < m.count true + 1
      omega
    | succ b =>
      have := ih.2 ⟨b, by simpa using hb1, by simpa using hb2⟩
      omega
theorem mkO_bools {n : Nat} (h : n ≤ 16) : mkO (n : Int) false = some (List.replicate n false) := by
  unfold mkO
  simp
  omega

/-! ### Ways of edges, one edge longer each time -/
section
variable {names : List ByteArray} {E : List TPair}
/-- the row's places are all that a way from a reaches, or as many as rounds were made -/
structure Reach (names : List ByteArray) (E : List TPair) (a j : Nat) (row : List Bool) : Prop where
  len : row.length = names.length
  self : row[a]? = some true
  way : ∀ b, row[b]? = some true → Way names E a b
  much : j + 1 ≤ row.count true ∨ ∀ b c, row[b]? = some true → ed names E b c → row[c]? = some true
theorem ref_b4 (k : Nat) (hf : fits names E) (row : List Bool) (hl : row.length = names.length) :
    ∃ next, forL (ref03_New.b4 k names) 0 E (row, row) = some (.go (next, row)) ∧ next.length = names.length ∧ ∀ b, next[b]? = some true ↔ row[b]? = some true ∨ ∃ a, row[a]? = some true ∧ ed names E a b := by
  have hd := apart_of hf.1
  obtain ⟨⟨next, row'⟩, h1, h2, h3, h4⟩ := forL_end (body := ref03_New.b4 k names) (xs := E) (s := (row, row))
    (fun i s => s.2 = row ∧ s.1.length = names.length ∧ ∀ b, s.1[b]? = some true ↔ row[b]? = some true ∨ ∃ a, row[a]? = some true ∧ ed names (E.take i) a b) ⟨rfl, hl, fun b => by simp [ed]⟩ (by
      rintro i e ⟨s, row'⟩ he ⟨hr, hlen, hb⟩
      simp only at hr hlen hb; subst hr
      obtain ⟨m1, m2⟩ := hf.2 e (List.mem_of_getElem? he)
      obtain ⟨x, hx⟩ := List.mem_iff_getElem?.1 m1
      obtain ⟨y, hy⟩ := List.mem_iff_getElem?.1 m2
      have hxl := (List.getElem?_eq_some_iff.1 hx).1
      have hyl := (List.getElem?_eq_some_iff.1 hy).1
      have hed : ∀ a b, ed names (E.take (i + 1)) a b ↔ ed names (E.take i) a b ∨ (a = x ∧ b = y) := fun a b => by
        rw [take_succ he]
        constructor
        · rintro ⟨d, hd1, hd2, hd3⟩
          rcases List.mem_append.1 hd1 with hd1 | hd1
          · exact .inl ⟨d, hd1, hd2, hd3⟩
          · obtain rfl : d = e := by simpa using hd1
            exact .inr ⟨hd _ _ _ hd2 hx, hd _ _ _ hd3 hy⟩
        · rintro (⟨d, hd1, hd2, hd3⟩ | ⟨rfl, rfl⟩)
          · exact ⟨d, List.mem_append_left _ hd1, hd2, hd3⟩
          · exact ⟨e, List.mem_append_right _ (by simp), hx, hy⟩
      obtain ⟨v, hv⟩ : ∃ v, row'[x]? = some v := ⟨_, List.getElem?_eq_getElem (by omega)⟩
      obtain ⟨w, hw⟩ : ∃ w, s[y]? = some w := ⟨_, List.getElem?_eq_getElem (by omega)⟩
      unfold ref03_New.b4
      cases v with
      | false =>
        refine ⟨(s, row'), ?_, rfl, hlen, fun b => ?_⟩
        · simp only [find_at k hd hx, Option.bind_some, getO_nat, hv, cond_false]
        · rw [hb b]
          constructor
          · rintro (h | ⟨a, h, h'⟩)
            · exact .inl h
            · exact .inr ⟨a, h, (hed a b).2 (.inl h')⟩
          · rintro (h | ⟨a, h, h'⟩)
            · exact .inl h
            · rcases (hed a b).1 h' with h' | ⟨rfl, rfl⟩
              · exact .inr ⟨a, h, h'⟩
              · rw [hv] at h; cases h
      | true =>
        refine ⟨(s.set y true, row'), ?_, rfl, by simpa using hlen, fun b => ?_⟩
        · simp only [find_at k hd hx, find_at k hd hy, Option.bind_some, getO_nat, hv, cond_true, hw, setO_nat]
        · rw [set_true (by omega) b, hb b]
          constructor
          · rintro (rfl | h | ⟨a, h, h'⟩)
            · exact .inr ⟨x, hv, (hed x b).2 (.inr ⟨rfl, rfl⟩)⟩
            · exact .inl h
            · exact .inr ⟨a, h, (hed a b).2 (.inl h')⟩
          · rintro (h | ⟨a, h, h'⟩)
            · exact .inr (.inl h)
            · rcases (hed a b).1 h' with h' | ⟨rfl, rfl⟩
              · exact .inr (.inr ⟨a, h, h'⟩)
              · exact .inl rfl)
  simp only at h2 h3 h4
  subst h2
  rw [List.take_length] at h4
  exact ⟨next, h1, h3, h4⟩
theorem ref_b3 (k : Nat) (hf : fits names E) (hn : names.length ≤ 16) {a : Nat} {row : List Bool} (h : Reach names E a 0 row) :
    ∃ row', forL (ref03_New.b3 k names E) 0 names row = some (.go row') ∧ row'.length = names.length ∧ ∀ b, row'[b]? = some true ↔ Way names E a b := by
  obtain ⟨row', h1, h2⟩ := forL_end (body := ref03_New.b3 k names E) (xs := names) (s := row) (fun i s => Reach names E a i s) h (by
    rintro i x s hx hs
    obtain ⟨next, g1, g2, g3⟩ := ref_b4 k hf s hs.len
    have hll := hs.len
    refine ⟨next, ?_, g2, (g3 a).2 (.inl hs.self), fun b hb => ?_, ?_⟩
    · unfold ref03_New.b3
      rw [lim_ok (by simp; omega)]
      simp only [Option.bind_some, List.nil_append, g1, Lr.k]
    · rcases (g3 b).1 hb with hb | ⟨c, hc, hcb⟩
      · exact hs.way b hb
      · exact (hs.way c hc).step hcb
    · by_cases hcl : ∀ b c, s[b]? = some true → ed names E b c → s[c]? = some true
      · right
        have same : ∀ b, next[b]? = some true ↔ s[b]? = some true := fun b => (g3 b).trans ⟨fun h => h.elim id fun ⟨c, hc, hcb⟩ => hcl c b hc hcb, .inl⟩
        intro b c hb hbc
        exact (same c).2 (hcl b c ((same b).1 hb) hbc)
      · left
        have hm := hs.much.resolve_right hcl
        obtain ⟨b, c, hb, hbc, hc⟩ : ∃ b c, s[b]? = some true ∧ ed names E b c ∧ ¬ s[c]? = some true := by
          refine Classical.byContradiction fun hno => hcl fun b c hb hbc => Classical.byContradiction fun hc => hno ⟨b, c, hb, hbc, hc⟩
        have := (count_grow s next (by omega) (fun b hb => (g3 b).2 (.inl hb))).2 ⟨c, (g3 c).2 (.inr ⟨b, hb, hbc⟩), hc⟩
        omega)
  have hcl : ∀ b c, row'[b]? = some true → ed names E b c → row'[c]? = some true := by
    refine h2.much.resolve_left fun h3 => ?_
    have := List.count_le_length (a := true) (l := row')
    have := h2.len
    omega
  refine ⟨row', h1, h2.len, fun b => ⟨h2.way b, fun hw => ?_⟩⟩
  induction hw with
  | refl => exact h2.self
  | step _ k ih => exact hcl _ _ ih k
theorem ref_b2 (k : Nat) (hf : fits names E) (hn : names.length ≤ 16) :
    ∃ T, forL (ref03_New.b2 k names E) 0 names ([] : List (List Bool)) = some (.go T) ∧ T.length = names.length ∧ ∀ a, a < names.length → ∃ row, T[a]? = some row ∧ row.length = names.length ∧ ∀ b, row[b]? = some true ↔ Way names E a b := by
  obtain ⟨T, h1, h2, h3⟩ := forL_end (body := ref03_New.b2 k names E) (xs := names) (s := ([] : List (List Bool)))
    (fun i T => T.length = i ∧ ∀ a, a < i → ∃ row, T[a]? = some row ∧ row.length = names.length ∧ ∀ b, row[b]? = some true ↔ Way names E a b) ⟨rfl, fun a h => absurd h (Nat.not_lt_zero _)⟩ (by
      rintro i x T hx ⟨hl, hT⟩
      have hi : i < names.length := (List.getElem?_eq_some_iff.1 hx).1
      have hset : ∀ b, ((List.replicate names.length false).set i true)[b]? = some true ↔ b = i := fun b => by
        rw [set_true (by simpa using hi) b]
        constructor
        · rintro (h | h)
          · exact h
          · rw [List.getElem?_replicate] at h
            split at h <;> cases h
        · exact .inl
      obtain ⟨row, g1, g2, g3⟩ := ref_b3 k hf hn (a := i) (row := (List.replicate names.length false).set i true) ⟨by simp, (hset i).2 rfl, fun b hb => by rw [(hset b).1 hb]; exact .refl _ hi, by
        left
        have : 0 < ((List.replicate names.length false).set i true).count true := List.count_pos_iff.2 (List.mem_of_getElem? ((hset i).2 rfl))
        omega⟩
      refine ⟨T ++ [row], ?_, by simp [hl], fun a ha => ?_⟩
      · unfold ref03_New.b2
        rw [mkO_bools hn]
        have h1 : (List.replicate names.length false)[i]? = some false := by rw [List.getElem?_replicate, if_pos hi]
        simp only [Option.bind_some, getO_nat, h1, setO_nat, g1, Lr.k, List.length_singleton]
        rw [lim_ok (by omega)]
        rfl
      · rcases Nat.lt_succ_iff_lt_or_eq.1 ha with ha | rfl
        · obtain ⟨row', r1, r2⟩ := hT a ha
          exact ⟨row', by rw [List.getElem?_append_left (by omega)]; exact r1, r2⟩
        · exact ⟨row, by rw [List.getElem?_append_right (by omega)]; simp [hl], g2, g3⟩)
  exact ⟨T, h1, h2, h3⟩
end
end Go.Proofs.YtliaopbgkcdibaaDoor
