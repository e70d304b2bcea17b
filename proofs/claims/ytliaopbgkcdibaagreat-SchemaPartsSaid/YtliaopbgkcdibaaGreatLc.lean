/- The package lattice, in plain words: which level stands below which, out of the edges: all ways along them. No program in sight. -/
import Derived.Test.YtliaopbgkcdibaaGreatLb
set_option linter.unusedVariables false
set_option linter.unusedSimpArgs false
namespace Go.Proofs.YtliaopbgkcdibaaGreat

def ed (names : List ByteArray) (E : List TPair) (a b : Nat) : Prop := ∃ e, e ∈ E ∧ names[a]? = some e.Low ∧ names[b]? = some e.High
inductive Way (names : List ByteArray) (E : List TPair) : Nat → Nat → Prop where
  | refl (a : Nat) (h : a < names.length) : Way names E a a
  | step {a b c : Nat} (h : Way names E a b) (k : ed names E b c) : Way names E a c
theorem Way.trans {names : List ByteArray} {E : List TPair} {a b c : Nat} (h : Way names E a b) (k : Way names E b c) : Way names E a c := by
  induction k with
  | refl => exact h
  | step _ k ih => exact ih.step k
def Apart (names : List ByteArray) : Prop := ∀ (i j : Nat) (x : ByteArray), names[i]? = some x → names[j]? = some x → i = j
theorem apart_of {names : List ByteArray} (h : ∀ j x, names[j]? = some x → ¬ nmBad names j x) : Apart names := by
  have key : ∀ (i j : Nat) (x : ByteArray), i < j → names[i]? = some x → names[j]? = some x → False := fun i j x hij h1 h2 =>
    h j x h2 (.inr (.inr (List.mem_of_getElem? (i := i) (by rw [List.getElem?_take, if_pos hij]; exact h1))))
  intro i j x h1 h2
  rcases Nat.lt_trichotomy i j with h3 | h3 | h3
  · exact (key i j x h3 h1 h2).elim
  · exact h3
  · exact (key j i x h3 h2 h1).elim

theorem Bits.set {n : Nat} {up : List Int} {r : Nat → Nat → Prop} (h : Bits n up r) {a m : Nat} (ha : a < n) (hm : m < 2 ^ n) : Bits n (up.set a (m : Int)) (fun x y => if x = a then m.testBit y = true else r x y) := by
  refine ⟨by simp [h.len], fun x hx => ?_⟩
  by_cases e : x = a
  · subst e
    exact ⟨m, by rw [List.getElem?_set_self (by rw [h.len]; exact ha)], hm, fun b => by simp⟩
  · obtain ⟨m', h1, h2, h3⟩ := h.bits x hx
    exact ⟨m', by rw [List.getElem?_set_ne (fun h => e h.symm)]; exact h1, h2, fun b => by rw [h3, if_neg e]⟩
/-- One number more is put into a set; a set is put into another one. -/
theorem Bits.orr {n : Nat} {up : List Int} {r : Nat → Nat → Prop} (h : Bits n up r) (hn : n ≤ 16) {a m m' : Nat} (ha : a < n) (hu : up[a]? = some (m : Int)) (hm' : m' < 2 ^ n) :
    Bits n (setO up (a : Int) (IntKind.wrap .u32 ((BitVec.ofInt (IntKind.bits .u32) (m : Int)) ||| (BitVec.ofInt (IntKind.bits .u32) (m' : Int))).toNat)) (fun x y => r x y ∨ (x = a ∧ m'.testBit y = true)) := by
  obtain ⟨q, h1, h2, h3⟩ := h.bits a ha
  have hq : q = m := by rw [hu] at h1; simp only [Option.some.injEq] at h1; omega
  subst hq
  rw [or_u32 (lt_u32 hn h2) (lt_u32 hn hm'), setO_nat]
  refine (h.set ha (Nat.or_lt_two_pow h2 hm')).congr fun x y hx => ?_
  by_cases e : x = a
  · subst e; simp [Nat.testBit_or, h3]
  · simp [e]

section
variable {names : List ByteArray} {E : List TPair} {J M : List Int} {n : Nat}
theorem edges_first (k : Nat) (hd : Apart names) (hn : names.length ≤ 16) (U D : List Int) (hU : Bits names.length U (fun a b => a = b)) :
    (∃ up, forL (lattice_Lattice_edges.b5 k ⟨names, atL 0 names, U, D, J, M⟩) 0 E U = some (.go up) ∧ Bits names.length up (fun a b => a = b ∨ ed names E a b) ∧ ∀ e, e ∈ E → e.Low ∈ names ∧ e.High ∈ names) ∨
    ∃ L, forL (lattice_Lattice_edges.b5 k ⟨names, atL 0 names, U, D, J, M⟩) 0 E U = some (.ret (11, L)) ∧ ∃ e, e ∈ E ∧ (e.Low ∉ names ∨ e.High ∉ names) := by
  rcases forL_spec (body := lattice_Lattice_edges.b5 k ⟨names, atL 0 names, U, D, J, M⟩) (xs := E) (s := U)
    (fun j up => Bits names.length up (fun a b => a = b ∨ ed names (E.take j) a b) ∧ ∀ e, e ∈ E.take j → e.Low ∈ names ∧ e.High ∈ names)
    (fun r => r.1 = 11 ∧ ∃ e, e ∈ E ∧ (e.Low ∉ names ∨ e.High ∉ names)) ⟨hU.congr fun a b _ => by simp [ed], by simp⟩ (by
      rintro j e up he ⟨h1, h2⟩
      unfold lattice_Lattice_edges.b5
      simp only
      cases hl : mget (atL 0 names) e.Low with
      | none =>
        right
        exact ⟨_, rfl, rfl, e, List.mem_of_getElem? he, .inl ((at_none _ _ _).1 hl)⟩
      | some v =>
        cases hh : mget (atL 0 names) e.High with
        | none =>
          right
          exact ⟨_, rfl, rfl, e, List.mem_of_getElem? he, .inr ((at_none _ _ _).1 hh)⟩
        | some v' =>
          left
          obtain ⟨i, rfl, hi⟩ := at_some _ _ _ _ hl
          obtain ⟨i', rfl, hi'⟩ := at_some _ _ _ _ hh
          have hin : i < names.length := (List.getElem?_eq_some_iff.1 hi).1
          have hin' : i' < names.length := (List.getElem?_eq_some_iff.1 hi').1
          obtain ⟨m, g1, g2, g3⟩ := h1.bits i hin
          have hb := h1.orr hn hin g1 (m' := 2 ^ i') (Nat.pow_lt_pow_right (by omega) hin')
          refine ⟨_, by simp only [Nat.zero_add, Option.isSome_some, Bool.not_true, cond_false, Option.bind_some, Option.getD_some, getO_nat, g1, shl_one (show i' < 32 by omega)]; rfl, ?_, ?_⟩
          · refine hb.congr fun a b ha => ?_
            rw [Nat.testBit_two_pow, take_succ he]
            constructor
            · rintro ((h | ⟨e', h3, h4⟩) | ⟨rfl, h⟩)
              · exact .inl h
              · exact .inr ⟨e', List.mem_append_left _ h3, h4⟩
              · simp at h; subst h; exact .inr ⟨e, List.mem_append_right _ List.mem_cons_self, hi, hi'⟩
            · rintro (h | ⟨e', h3, h4, h5⟩)
              · exact .inl (.inl h)
              · rcases List.mem_append.1 h3 with h3 | h3
                · exact .inl (.inr ⟨e', h3, h4, h5⟩)
                · have : e' = e := by simpa using h3
                  subst this
                  exact .inr ⟨hd _ _ _ h4 hi, by simp [hd _ _ _ h5 hi']⟩
          · intro e' h3
            rw [take_succ he] at h3
            rcases List.mem_append.1 h3 with h3 | h3
            · exact h2 e' h3
            · have : e' = e := by simpa using h3
              subst this
              exact ⟨List.mem_of_getElem? hi, List.mem_of_getElem? hi'⟩) with ⟨up, h1, h2, h3⟩ | ⟨r, h1, h2, h3⟩
  · exact .inl ⟨up, h1, by simpa using h2, by simpa using h3⟩
  · right
    obtain ⟨a, L⟩ := r
    simp only at h2
    subst h2
    exact ⟨L, h1, h3⟩

/-! ### Till nothing more follows -/
def total (l : List Int) : Nat := (l.map Int.toNat).sum
theorem total_set : ∀ (l : List Int) (i : Nat) (m m' : Nat), l[i]? = some (m : Int) → m < m' → total l < total (l.set i (m' : Int))
  | [], i, m, m', h, _ => by simp at h
  | x :: l, 0, m, m', h, hm => by simp at h; subst h; simp [total]; exact hm
  | x :: l, i + 1, m, m', h, hm => by
    have := total_set l i m m' (by simpa using h) hm
    simp only [total, List.set_cons_succ, List.map_cons, List.sum_cons] at this ⊢
    omega
theorem total_le {n : Nat} {up : List Int} {r : Nat → Nat → Prop} (h : Bits n up r) : total up ≤ n * 2 ^ n := by
  have key : ∀ (l : List Int), (∀ x, x ∈ l → x.toNat ≤ 2 ^ n) → total l ≤ l.length * 2 ^ n := by
    intro l
    induction l with
    | nil => intro _; simp [total]
    | cons x l ih =>
      intro hx
      have h1 := ih fun y hy => hx y (List.mem_cons_of_mem _ hy)
      have h2 := hx x List.mem_cons_self
      simp only [total, List.map_cons, List.sum_cons, List.length_cons] at h1 ⊢
      rw [Nat.succ_mul]; omega
  have := key up fun x hx => by
    obtain ⟨a, ha, rfl⟩ := List.mem_iff_getElem.1 hx
    obtain ⟨m, h1, h2, _⟩ := h.bits a (by rw [← h.len]; exact ha)
    rw [List.getElem?_eq_getElem ha] at h1
    simp only [Option.some.injEq] at h1
    rw [h1]; simp; omega
  rw [h.len] at this
  exact this
theorem le_of_bits {m m' : Nat} (h : ∀ b, m.testBit b = true → m'.testBit b = true) : m ≤ m' := by
  have : m ||| m' = m' := Nat.eq_of_testBit_eq fun b => by
    rw [Nat.testBit_or]
    cases e : m.testBit b with
    | false => simp
    | true => simp [h b e]
  rw [← this]; exact Nat.left_le_or
/-- One pass from one level on. -/
theorem edges_b4 (k : Nat) (hn : n ≤ 16) {s : List Int} {r : Nat → Nat → Prop} (hs : Bits n s r) {i m : Nat} (hi : i < n) (hm : s[i]? = some (m : Int)) :
    ∃ u, forL (lattice_Lattice_edges.b4 k (m : Int) i) 0 s s = some (.go u) ∧ Bits n u (fun a c => r a c ∨ (a = i ∧ ∃ b, r i b ∧ r b c)) ∧ ∃ m' : Nat, u = s.set i (m' : Int) := by
  obtain ⟨q, q1, q2, q3⟩ := hs.bits i hi
  have hq : q = m := by rw [hm] at q1; simp only [Option.some.injEq] at q1; omega
  subst hq
  obtain ⟨u, h1, h2, h3⟩ := forL_end (body := lattice_Lattice_edges.b4 k (q : Int) i) (xs := s) (s := s)
    (fun j u => Bits n u (fun a c => r a c ∨ (a = i ∧ ∃ b, b < j ∧ r i b ∧ r b c)) ∧ ∃ m' : Nat, u = s.set i (m' : Int)) ⟨hs.congr fun a b _ => by simp, q, by
      apply List.ext_getElem?
      intro j
      by_cases e : j = i
      · subst e; rw [List.getElem?_set_self (by rw [hs.len]; exact hi), hm]
      · rw [List.getElem?_set_ne (fun h => e h.symm)]⟩ (by
      rintro j x u hx ⟨g1, m', g2⟩
      have hj : j < n := by rw [← hs.len]; exact (List.getElem?_eq_some_iff.1 hx).1
      unfold lattice_Lattice_edges.b4
      rw [has_nat k (lt_u32 hn q2) (show j < 32 by omega), Option.bind_some]
      cases hb : q.testBit j with
      | false =>
        refine ⟨u, by simp only [cond_false, Option.bind_some], g1.congr fun a c _ => ?_, m', g2⟩
        constructor
        · rintro (h | ⟨h, b, h3, h4⟩)
          · exact .inl h
          · exact .inr ⟨h, b, by omega, h4⟩
        · rintro (h | ⟨h, b, h3, h4, h5⟩)
          · exact .inl h
          · rcases Nat.lt_or_ge b j with h6 | h6
            · exact .inr ⟨h, b, h6, h4, h5⟩
            · have : b = j := by omega
              subst this
              rw [(q3 b).2 h4] at hb; cases hb
      | true =>
        obtain ⟨p, p1, p2, p3⟩ := g1.bits i hi
        obtain ⟨p', p1', p2', p3'⟩ := g1.bits j hj
        have ho := g1.orr hn hi p1 p2'
        have hrj : r i j := (q3 j).1 hb
        refine ⟨_, by simp only [cond_true, getO_nat, p1, p1', Option.bind_some], ho.congr fun a c ha => ?_, ?_⟩
        · constructor
          · rintro ((h | ⟨h, b, h3, h4⟩) | ⟨rfl, h⟩)
            · exact .inl h
            · exact .inr ⟨h, b, by omega, h4⟩
            · rcases (p3' c).1 h with h | ⟨rfl, b, h3, h4⟩
              · exact .inr ⟨rfl, j, by omega, hrj, h⟩
              · exact .inr ⟨rfl, b, by omega, h4⟩
          · rintro (h | ⟨rfl, b, h3, h4, h5⟩)
            · exact .inl (.inl h)
            · rcases Nat.lt_or_ge b j with h6 | h6
              · exact .inl (.inr ⟨rfl, b, h6, h4, h5⟩)
              · have : b = j := by omega
                subst this
                exact .inr ⟨rfl, (p3' c).2 (.inl h5)⟩
        · rw [or_u32 (lt_u32 hn p2) (lt_u32 hn p2'), setO_nat, g2]
          exact ⟨_, by rw [List.set_set]⟩)
  refine ⟨u, h1, h2.congr fun a c _ => ?_, h3⟩
  constructor
  · rintro (h | ⟨h, b, _, h4⟩)
    · exact .inl h
    · exact .inr ⟨h, b, h4⟩
  · rintro (h | ⟨h, b, h4⟩)
    · exact .inl h
    · exact .inr ⟨h, b, by rw [hs.len]; exact hs.lt hi h4.1, h4⟩

/-- One pass over all: nothing follows any more, or more stands below. -/
theorem edges_b3 (k : Nat) (hn : n ≤ 16) {s : List Int} {r : Nat → Nat → Prop} (hs : Bits n s r) :
    (forL (lattice_Lattice_edges.b3 k) 0 s s = some (.go s) ∧ ∀ a b c, a < n → r a b → r b c → r a c) ∨
    ∃ (u : List Int) (i : Nat), forL (lattice_Lattice_edges.b3 k) 0 s s = some (.ret (.next u)) ∧ total s < total u ∧ i < n ∧ Bits n u (fun a c => r a c ∨ (a = i ∧ ∃ b, r i b ∧ r b c)) := by
  rcases forL_spec (body := lattice_Lattice_edges.b3 k) (xs := s) (s := s)
    (fun j t => t = s ∧ ∀ a b c, a < j → r a b → r b c → r a c)
    (fun x => ∃ (u : List Int) (i : Nat), x = .next u ∧ total s < total u ∧ i < n ∧ Bits n u (fun a c => r a c ∨ (a = i ∧ ∃ b, r i b ∧ r b c))) ⟨rfl, fun a b c h => absurd h (Nat.not_lt_zero _)⟩ (by
      rintro j x t hx ⟨rfl, h2⟩
      have hj : j < n := by rw [← hs.len]; exact (List.getElem?_eq_some_iff.1 hx).1
      obtain ⟨m, m1, m2, m3⟩ := hs.bits j hj
      obtain ⟨u, u1, u2, m', u3⟩ := edges_b4 k hn hs hj m1
      have hu : u[j]? = some (m' : Int) := by rw [u3, List.getElem?_set_self (by rw [hs.len]; exact hj)]
      have hm' : ∀ b, m'.testBit b = true ↔ r j b ∨ ∃ c, r j c ∧ r c b := by
        obtain ⟨q, q1, q2, q3⟩ := u2.bits j hj
        have : q = m' := by rw [hu] at q1; simp only [Option.some.injEq] at q1; omega
        subst this
        intro b; rw [q3]; simp
      unfold lattice_Lattice_edges.b3
      simp only [getO_nat, m1, u1, hu, Option.bind_some, Lr.k]
      by_cases e : (m' : Int) = (m : Int)
      · left
        have hmm : m' = m := by omega
        subst hmm
        have hcl : ∀ b c, r j b → r b c → r j c := fun b c h3 h4 => (m3 c).1 ((hm' c).2 (.inr ⟨b, h3, h4⟩))
        have hut : u = t := u2.uniq (hs.congr fun a c _ => ⟨.inl, fun h => h.elim id fun ⟨h1, b, h3, h4⟩ => by subst h1; exact hcl b c h3 h4⟩)
        refine ⟨t, by simp [hut], rfl, fun a b c ha h3 h4 => ?_⟩
        rcases Nat.lt_or_ge a j with h5 | h5
        · exact h2 a b c h5 h3 h4
        · have : a = j := by omega
          subst this
          exact hcl b c h3 h4
      · right
        refine ⟨_, by simp only [decide_eq_false e, Bool.not_false, cond_true], u, j, rfl, ?_, hj, u2⟩
        rw [u3]
        refine total_set t j m m' m1 ?_
        have := le_of_bits (m := m) (m' := m') fun b hb => (hm' b).2 (.inl ((m3 b).1 hb))
        omega) with ⟨t, h1, rfl, h3⟩ | ⟨x, h1, u, i, rfl, h3⟩
  · exact .inl ⟨h1, fun a b c ha => h3 a b c (by rw [hs.len]; exact ha)⟩
  · exact .inr ⟨u, i, h1, h3⟩
/-- What stands above is turned to what stands below. -/
theorem edges_b1 (k : Nat) (hn : n ≤ 16) {s d : List Int} {r : Nat → Nat → Prop} (hs : Bits n s r) (hd : Bits n d (fun a b => a = b)) (hr : ∀ a, a < n → r a a) :
    ∃ d', forL (lattice_Lattice_edges.b1 k) 0 s (s, d) = some (.go (s, d')) ∧ Bits n d' (fun b a => a < n ∧ r a b) := by
  obtain ⟨⟨s', d'⟩, h1, rfl, h3⟩ := forL_end (body := lattice_Lattice_edges.b1 k) (xs := s) (s := (s, d))
    (fun j t => t.1 = s ∧ Bits n t.2 (fun b a => a = b ∨ (a < j ∧ r a b))) ⟨rfl, hd.congr fun a b _ => by simp [eq_comm]⟩ (by
      rintro j x ⟨s', d'⟩ hx ⟨rfl, h2⟩
      have hj : j < n := by rw [← hs.len]; exact (List.getElem?_eq_some_iff.1 hx).1
      obtain ⟨m, m1, m2, m3⟩ := hs.bits j hj
      unfold lattice_Lattice_edges.b1
      obtain ⟨⟨s2, d2⟩, g1, rfl, g3⟩ := forL_end (body := lattice_Lattice_edges.b2 k j) (xs := s') (s := (s', d'))
        (fun i t => t.1 = s' ∧ Bits n t.2 (fun b a => a = b ∨ (a < j ∧ r a b) ∨ (a = j ∧ b < i ∧ r a b))) ⟨rfl, h2.congr fun a b _ => by simp⟩ (by
          rintro i y ⟨s3, d3⟩ hy ⟨rfl, h3⟩
          have hi : i < n := by rw [← hs.len]; exact (List.getElem?_eq_some_iff.1 hy).1
          unfold lattice_Lattice_edges.b2
          simp only [getO_nat, m1, Option.bind_some, has_nat k (lt_u32 hn m2) (show i < 32 by omega)]
          cases hb : m.testBit i with
          | false =>
            refine ⟨_, rfl, rfl, h3.congr fun b a _ => ?_⟩
            constructor
            · rintro (h | h | ⟨h, h4, h5⟩)
              · exact .inl h
              · exact .inr (.inl h)
              · exact .inr (.inr ⟨h, by omega, h5⟩)
            · rintro (h | h | ⟨h, h4, h5⟩)
              · exact .inl h
              · exact .inr (.inl h)
              · rcases Nat.lt_or_ge b i with h6 | h6
                · exact .inr (.inr ⟨h, h6, h5⟩)
                · have : b = i := by omega
                  subst this; subst h
                  rw [(m3 b).2 h5] at hb; cases hb
          | true =>
            obtain ⟨p, p1, p2, p3⟩ := h3.bits i hi
            have ho := h3.orr hn hi p1 (m' := 2 ^ j) (Nat.pow_lt_pow_right (by omega) hj)
            refine ⟨_, by simp only [cond_true, p1, Option.bind_some, shl_one (show j < 32 by omega)]; rfl, rfl, ho.congr fun b a _ => ?_⟩
            rw [Nat.testBit_two_pow]
            constructor
            · rintro ((h | h | ⟨h, h4, h5⟩) | ⟨rfl, h⟩)
              · exact .inl h
              · exact .inr (.inl h)
              · exact .inr (.inr ⟨h, by omega, h5⟩)
              · simp at h; subst h; exact .inr (.inr ⟨rfl, by omega, (m3 b).1 hb⟩)
            · rintro (h | h | ⟨rfl, h4, h5⟩)
              · exact .inl (.inl h)
              · exact .inl (.inr (.inl h))
              · rcases Nat.lt_or_ge b i with h6 | h6
                · exact .inl (.inr (.inr ⟨rfl, h6, h5⟩))
                · have : b = i := by omega
                  subst this
                  exact .inr ⟨rfl, by simp⟩)
      refine ⟨(s2, d2), by simp only [g1, Option.bind_some, Lr.k], rfl, g3.congr fun b a hb => ?_⟩
      constructor
      · rintro (h | ⟨h, h4⟩ | ⟨rfl, h4, h5⟩)
        · exact .inl h
        · exact .inr ⟨by omega, h4⟩
        · exact .inr ⟨by omega, h5⟩
      · rintro (h | ⟨h, h4⟩)
        · exact .inl h
        · rcases Nat.lt_or_ge a j with h6 | h6
          · exact .inr (.inl ⟨h6, h4⟩)
          · have : a = j := by omega
            subst this
            exact .inr (.inr ⟨rfl, by have := hs.len; simp only at this ⊢; omega, h4⟩))
  refine ⟨d', h1, h3.congr fun b a hb => ?_⟩
  rw [hs.len]
  constructor
  · rintro (h | h)
    · subst h; exact ⟨hb, hr _ hb⟩
    · exact h
  · exact .inr

theorem edges_spec (k : Nat) (hk : 1048577 ≤ k) (hd : Apart names) (hn : names.length ≤ 16) :
    (∃ up dn, lattice_Lattice_edges k ⟨names, atL 0 names, pows names.length, pows names.length, J, M⟩ E = some (0, ⟨names, atL 0 names, up, dn, J, M⟩) ∧ Bits names.length up (Way names E) ∧ Bits names.length dn (fun a b => Way names E b a) ∧ ∀ e, e ∈ E → e.Low ∈ names ∧ e.High ∈ names) ∨
    ∃ L, lattice_Lattice_edges k ⟨names, atL 0 names, pows names.length, pows names.length, J, M⟩ E = some (11, L) ∧ ∃ e, e ∈ E ∧ (e.Low ∉ names ∨ e.High ∉ names) := by
  unfold lattice_Lattice_edges
  rcases edges_first (E := E) (J := J) (M := M) k hd hn (pows names.length) (pows names.length) (pows_bits _) with ⟨up, h1, h2, h3⟩ | ⟨L, h1, h2⟩
  · left
    have hlt : ∀ a b, ed names E a b → a < names.length := fun a b ⟨e, _, h, _⟩ => (List.getElem?_eq_some_iff.1 h).1
    obtain ⟨o, g1, u, d, rfl, g3, g4⟩ := whileL_spec (body := lattice_Lattice_edges.b0 k ⟨names, atL 0 names, pows names.length, pows names.length, J, M⟩)
      (fun s => ∃ r, Bits names.length s r ∧ (∀ a, a < names.length → r a a) ∧ (∀ a b, ed names E a b → r a b) ∧ ∀ a b, a < names.length → r a b → Way names E a b)
      (fun o => ∃ u d, o = .ret (0, ⟨names, atL 0 names, u, d, J, M⟩) ∧ Bits names.length u (Way names E) ∧ Bits names.length d (fun a b => Way names E b a))
      (fun s => names.length * 2 ^ names.length - total s) (by
        rintro s ⟨r, r1, r2, r3, r4⟩
        unfold lattice_Lattice_edges.b0
        rcases edges_b3 k hn r1 with ⟨q1, q2⟩ | ⟨u, i, q1, q2, hi, q3⟩
        · right; right
          obtain ⟨d', d1, d2⟩ := edges_b1 k hn r1 (pows_bits names.length) r2
          have hw : ∀ a b, a < names.length → (r a b ↔ Way names E a b) := fun a b ha => ⟨r4 a b ha, fun h => by
            induction h with
            | refl h => exact r2 a h
            | step h k' ih => exact q2 _ _ _ ha ih (r3 _ _ k')⟩
          refine ⟨_, by simp only [q1, Option.bind_some, Lr.k, d1], s, d', rfl, r1.congr fun a b ha => hw a b ha, d2.congr fun a b ha => ⟨fun h => r4 b a h.1 h.2, fun h => ?_⟩⟩
          have hb : b < names.length := by
            clear d2 d1 ha
            induction h with
            | refl h => exact h
            | step _ _ ih => exact ih
          exact ⟨hb, (hw b a hb).2 h⟩
        · left
          refine ⟨u, by simp only [q1, Option.bind_some, Lr.k], ⟨_, q3, fun a ha => .inl (r2 a ha), fun a b h => .inl (r3 a b h), ?_⟩, ?_⟩
          · rintro a b ha (h | ⟨rfl, c, h4, h5⟩)
            · exact r4 a b ha h
            · exact (r4 a c ha h4).trans (r4 c b (r1.lt ha h4) h5)
          · have := total_le q3
            omega) k up ⟨_, h2, fun a _ => .inl rfl, fun a b h => .inr h, fun a b ha h => by
              rcases h with rfl | h
              · exact .refl a ha
              · exact (Way.refl a ha).step h⟩ (by
        have h4 : names.length * 2 ^ names.length ≤ 16 * 2 ^ 16 := Nat.mul_le_mul hn (Nat.pow_le_pow_right (by omega) hn)
        have h5 : 16 * 2 ^ 16 = 1048576 := by decide
        omega)
    exact ⟨u, d, by simp only [h1, Option.bind_some, Lr.k, g1], g3, g4, h3⟩
  · exact .inr ⟨L, by simp only [h1, Option.bind_some, Lr.k], h2⟩
/-- What New answers: an error of names; or what the tables of all ways are. -/
def fits (names : List ByteArray) (E : List TPair) : Prop := (∀ j x, names[j]? = some x → ¬ nmBad names j x) ∧ ∀ e, e ∈ E → e.Low ∈ names ∧ e.High ∈ names
def out (L : Tlattice_Lattice) (y : Bool × Tlattice_Lattice) : Option Tlattice_Lattice × Int := bif y.1 then (some ⟨L.names_, L.at_, L.up_, L.down_, y.2.join_, y.2.meet_⟩, 0) else (none, 12)
theorem new_spec (k : Nat) (hk : 1048577 ≤ k) (hn : names.length ≤ 16) (hE : E.length ≤ 64) :
    (fits names E ∧ ∃ up dn, Bits names.length up (Way names E) ∧ Bits names.length dn (fun a b => Way names E b a) ∧ lattice_New k names E = (lattice_Lattice_tables k ⟨names, atL 0 names, up, dn, [], []⟩).bind fun y => some (out ⟨names, atL 0 names, up, dn, [], []⟩ y)) ∨
    (¬ fits names E ∧ lattice_New k names E = some (none, 11)) := by
  have h16 : decide ((16 : Int) < (names.length : Int)) = false := decide_eq_false (by omega)
  have h64 : decide ((64 : Int) < (E.length : Int)) = false := decide_eq_false (by omega)
  have hcl : slices_Clone_string_string k names = some names := by
    unfold slices_Clone_string_string
    rw [lim_ok (by simp; omega)]; simp
  unfold lattice_New
  simp only [h16, h64, cond_false, Option.bind_some, hcl]
  rcases named_spec k names [] [] hn with ⟨h1, h2⟩ | ⟨L, h1, j, x, h2, h3⟩
  · rcases edges_spec (E := E) (J := []) (M := []) k hk (apart_of h2) hn with ⟨up, dn, g1, g2, g3, g4⟩ | ⟨L, g1, e, g2, g3⟩
    · left
      refine ⟨⟨h2, g4⟩, up, dn, g2, g3, ?_⟩
      simp only [h1, Option.bind_some, g1, decide_true, Bool.not_true, cond_false]
      congr 1
      funext y
      obtain ⟨b, L⟩ := y
      cases b <;> rfl
    · right
      refine ⟨fun h => ?_, ?_⟩
      · have := h.2 e g2
        rcases g3 with g3 | g3
        · exact g3 this.1
        · exact g3 this.2
      · simp only [h1, Option.bind_some, g1, decide_true, Bool.not_true, cond_false]
        rfl
  · right
    refine ⟨fun h => h.1 j x h2 h3, ?_⟩
    simp only [h1, Option.bind_some]
    rfl
end
end Go.Proofs.YtliaopbgkcdibaaGreat
