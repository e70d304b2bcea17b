/- Schemas, in plain words: names with levels; a schema without some of its names. No program in sight. -/
import Derived.Test.YtliaopbgkcdibaaGreatPd
set_option linter.unusedVariables false
set_option linter.unusedSimpArgs false
namespace Go.Proofs.YtliaopbgkcdibaaGreat
def okN (L : Tlattice_Lattice) (p : TPair) : Prop := (mget L.at_ p.High).isSome = true ∧ p.Low ≠ ⟨#[]⟩
def nm (L : Tlattice_Lattice) (p : TPair) : TNamed := ⟨p.Low, (mget L.at_ p.High).getD 0⟩
theorem has_tot (k : Nat) (l : List TNamed) (b : TPair) : Tot (slices_ContainsFunc_api_Named_api_Named k l (fun h => schema_Catalog_named_1 k h (some b))) fun r => r = true ↔ ∃ a, a ∈ l ∧ a.Name = b.Low := by
  unfold slices_ContainsFunc_api_Named_api_Named slices_IndexFunc_api_Named_api_Named
  refine Tot.bind (Tot.bind (Tot.forL (fun j _ => ∀ a, a ∈ l.take j → a.Name ≠ b.Low) (by simp) (fun j x s hx hs => ?_) fun _ hs => Tot.ret (Tot.ret ?_)))
  · unfold slices_IndexFunc_api_Named_api_Named.b0 schema_Catalog_named_1
    refine Tot.bind (Tot.optE rfl (Tot.ret (Tot.dec (fun h => Tot.ret (Tot.ret (Tot.ret ?_))) (fun h => Tot.ret ?_))))
    · rw [decide_eq_true (by omega)]
      exact ⟨fun _ => ⟨x, List.mem_of_getElem? hx, h⟩, fun _ => rfl⟩
    · intro a ha
      obtain ⟨hj, hx'⟩ := List.getElem?_eq_some_iff.1 hx
      rw [List.take_succ_eq_append_getElem hj, List.mem_append, hx', List.mem_singleton] at ha
      rcases ha with ha | rfl
      · exact hs a ha
      · exact h
  · rw [List.take_length] at hs
    constructor
    · intro h; exact absurd (of_decide_eq_true h) (by decide)
    · rintro ⟨a, h1, h2⟩; exact absurd h2 (hs a h1)
def GoodN (L : Tlattice_Lattice) (acc : List TNamed) (l : List TPair) : Prop := (∀ p, p ∈ l → okN L p ∧ ∀ a, a ∈ acc → a.Name ≠ p.Low) ∧ l.Pairwise fun p q => p.Low ≠ q.Low
theorem named_body (k : Nat) {L : Tlattice_Lattice} {c : Tschema_Catalog} (hc : c.lattice_ = some L) (p : TPair) (i : Nat) (acc : List TNamed) (hl : acc.length ≤ 1000) :
    (okN L p ∧ (∀ a, a ∈ acc → a.Name ≠ p.Low) ∧ schema_Catalog_named.b0 k c i p acc = some (.next (acc ++ [nm L p]))) ∨ (¬ (okN L p ∧ ∀ a, a ∈ acc → a.Name ≠ p.Low) ∧ ∃ e, schema_Catalog_named.b0 k c i p acc = some (.ret e) ∧ e.2.2.1 = 11) := by
  unfold schema_Catalog_named.b0
  rw [hc, find_eq, Option.bind_some]
  obtain ⟨h, hh, hh'⟩ := has_tot k acc p
  dsimp only
  cases hs : (mget L.at_ p.High).isSome
  · exact .inr ⟨fun g => (by have := g.1.1; rw [hs] at this; cases this), _, rfl, rfl⟩
  · by_cases h0 : p.Low = ⟨#[]⟩
    · rw [decide_eq_true h0]
      exact .inr ⟨fun g => g.1.2 h0, _, rfl, rfl⟩
    · rw [decide_eq_false h0, hh]
      simp only [Bool.not_true, cond_false, Option.bind_some]
      cases h
      · have hno : ∀ a, a ∈ acc → a.Name ≠ p.Low := fun a ha he => by have := hh'.2 ⟨a, ha, he⟩; cases this
        refine .inl ⟨⟨hs, h0⟩, hno, ?_⟩
        rw [show lim (acc.length + [(TNamed.mk p.Low ((mget L.at_ p.High).getD 0))].length) = some () from by unfold lim; rw [if_pos (by simp; omega)]]
        rfl
      · refine .inr ⟨fun g => ?_, _, rfl, rfl⟩
        obtain ⟨a, ha, he⟩ := hh'.1 rfl
        exact g.2 a ha he
theorem named_loop (k : Nat) {L : Tlattice_Lattice} {c : Tschema_Catalog} (hc : c.lattice_ = some L) : ∀ (l : List TPair) (i : Nat) (acc : List TNamed), acc.length + l.length ≤ 1000 →
    Tot (forL (schema_Catalog_named.b0 k c) i l acc) fun r => (r = .go (acc ++ l.map (nm L)) ∧ GoodN L acc l) ∨ (¬ GoodN L acc l ∧ ∃ e, r = .ret e ∧ e.2.2.1 = 11)
  | [], i, acc, _ => Tot.ret (.inl ⟨by simp, by simp, .nil⟩)
  | p :: l, i, acc, hl => by
    unfold forL
    rcases named_body k hc p i acc (by simp at hl; omega) with ⟨h1, h2, h3⟩ | ⟨h1, e, h2, h3⟩
    · rw [h3, Option.bind_some]
      refine (named_loop k hc l (i + 1) (acc ++ [nm L p]) (by simp at hl ⊢; omega)).mono ?_
      have hiff : GoodN L acc (p :: l) ↔ GoodN L (acc ++ [nm L p]) l := by
        unfold GoodN
        rw [List.pairwise_cons]
        constructor
        · rintro ⟨g1, g2, g3⟩
          refine ⟨fun q hq => ⟨(g1 q (List.mem_cons_of_mem _ hq)).1, fun a ha => ?_⟩, g3⟩
          rcases List.mem_append.1 ha with ha | ha
          · exact (g1 q (List.mem_cons_of_mem _ hq)).2 a ha
          · rw [List.mem_singleton.1 ha]; exact g2 q hq
        · rintro ⟨g1, g3⟩
          refine ⟨fun q hq => ?_, fun q hq => (g1 q hq).2 (nm L p) (by simp), g3⟩
          rcases List.mem_cons.1 hq with rfl | hq
          · exact ⟨h1, h2⟩
          · exact ⟨(g1 q hq).1, fun a ha => (g1 q hq).2 a (List.mem_append_left _ ha)⟩
      rintro r (⟨rfl, g⟩ | ⟨g, e, rfl, he⟩)
      · exact .inl ⟨by simp, hiff.2 g⟩
      · exact .inr ⟨fun h => g (hiff.1 h), e, rfl, he⟩
    · rw [h2, Option.bind_some]
      exact Tot.ret (.inr ⟨fun g => h1 (g.1 p List.mem_cons_self), e, rfl, h3⟩)
theorem named08 (k : Nat) {L : Tlattice_Lattice} {c : Tschema_Catalog} (hc : c.lattice_ = some L) (l : List TPair) (hl : l.length ≤ 1000) :
    (GoodN L [] l ∧ schema_Catalog_named k c l = some (l.map (nm L), 0, 0, c)) ∨ ∃ e, schema_Catalog_named k c l = some e ∧ e.2.2.1 = 11 := by
  unfold schema_Catalog_named
  obtain ⟨r, hr, ⟨rfl, g⟩ | ⟨g, e, rfl, he⟩⟩ := named_loop k hc l 0 [] (by simpa using hl)
  · exact .inl ⟨g, by rw [hr]; rfl⟩
  · exact .inr ⟨e, by rw [hr]; rfl, he⟩
theorem GoodN.sub {L : Tlattice_Lattice} {l l' : List TPair} (h : GoodN L [] l) (hs : l'.Sublist l) : GoodN L [] l' := ⟨fun p hp => h.1 p (hs.subset hp), h.2.sublist hs⟩
theorem named_good (k : Nat) {L : Tlattice_Lattice} {c : Tschema_Catalog} (hc : c.lattice_ = some L) (l : List TPair) (hl : l.length ≤ 1000) (h : GoodN L [] l) : schema_Catalog_named k c l = some (l.map (nm L), 0, 0, c) := by
  unfold schema_Catalog_named
  obtain ⟨r, hr, ⟨rfl, g⟩ | ⟨g, e, rfl, he⟩⟩ := named_loop k hc l 0 [] (by simpa using hl)
  · rw [hr]; rfl
  · exact absurd h g
/-- What a schema that may be is: the same of all of its names or of some of them. -/
structure Made (k : Nat) (s : TSchema) (c : Tschema_Catalog) : Prop where
  tabs : ∀ t, t ∈ c.tables_ → GoodT t
  few : c.tables_.length ≤ 20
  all : ∃ L, c.channels_ = s.Channels.map (nm L) ∧ c.principals_ = s.Principals.map (nm L) ∧ s.Channels.Pairwise (fun p q => p.Low ≠ q.Low) ∧ s.Principals.Pairwise (fun p q => p.Low ≠ q.Low) ∧ s.Channels.length ≤ 20 ∧ s.Principals.length ≤ 20 ∧
    ∀ ch pr, ch.Sublist s.Channels → pr.Sublist s.Principals → schema_New k ⟨s.Levels, s.Edges, s.Tables, ch, pr, s.Limit⟩ = some (some ⟨c.lattice_, c.tables_, c.at_, ch.map (nm L), pr.map (nm L), c.limit_⟩, 0, 0)
theorem new08 (k : Nat) (hk : 1048577 ≤ k) (s : TSchema) (hs : ∀ t, t ∈ s.Tables → lightT t) : Tot (schema_New k s) fun r => (r.1 = none ∧ r.2.2 ≠ 0) ∨ (r.2.2 = 0 ∧ ∃ c, r.1 = some c ∧ Made k s c) := by
  have hlat : ∃ d, lattice_New k s.Levels s.Edges = some d ∧ (d.2 ≠ 0 ∨ ∃ L, d = (some L, 0) ∧ Lat s.Levels.length (Way s.Levels s.Edges) L) := by
    by_cases hn : s.Levels.length ≤ 16
    · by_cases hE : s.Edges.length ≤ 64
      · rcases new_all k hk s.Levels s.Edges hn hE with ⟨L, h1, h2, _⟩ | ⟨h1, _⟩ | ⟨h1, _⟩
        · exact ⟨_, h1, .inr ⟨L, rfl, h2⟩⟩
        · exact ⟨_, h1, .inl (by simp)⟩
        · exact ⟨_, h1, .inl (by simp)⟩
      · exact ⟨_, new_many k _ _ (.inr (by omega)), .inl (by simp)⟩
    · exact ⟨_, new_many k _ _ (.inl (by omega)), .inl (by simp)⟩
  obtain ⟨d, hd, hd'⟩ := hlat
  have hNew : ∀ ch pr, schema_New k ⟨s.Levels, s.Edges, s.Tables, ch, pr, s.Limit⟩ = _ := fun ch pr => by unfold schema_New; rfl
  unfold schema_New
  rw [hd, Option.bind_some]
  rcases hd' with he | ⟨L, rfl, hL⟩
  · refine Tot.ndec (fun _ => Tot.ret (.inl ⟨rfl, he⟩)) (fun h => absurd h he)
  refine Tot.ndec (fun h => absurd rfl h) (fun _ => ?_)
  by_cases hmax : (20 : Int) < max (max (s.Tables.length : Int) (s.Channels.length : Int)) (s.Principals.length : Int)
  · rw [decide_eq_true hmax]; exact Tot.ret (.inl ⟨rfl, by simp⟩)
  rw [decide_eq_false hmax]
  by_cases hl0 : s.Limit < 0
  · rw [decide_eq_true hl0]; exact Tot.ret (.inl ⟨rfl, by simp⟩)
  rw [decide_eq_false hl0]
  by_cases hl1 : (100 : Int) < s.Limit
  · rw [decide_eq_true hl1]; exact Tot.ret (.inl ⟨rfl, by simp⟩)
  rw [decide_eq_false hl1]
  simp only [cond_false, Option.bind_some]
  obtain ⟨m, hm⟩ : ∃ m, (bif decide (s.Limit = (0 : Int)) then some ((100 : Int)) else some s.Limit) = some m := by
    cases decide (s.Limit = (0 : Int)) <;> exact ⟨_, rfl⟩
  rw [hm, Option.bind_some]
  have htab : Tot (forL (schema_New.b0 k (some L, 0) m) 0 s.Tables (([] : List TRelation), ([] : Places))) fun r => (∃ T A, r = .go (T, A) ∧ (∀ t, t ∈ T → GoodT t) ∧ T.length = s.Tables.length) ∨ ∃ e, r = .ret e ∧ e.1 = none ∧ e.2.2 ≠ 0 := by
    refine Tot.forL (fun j (st : List TRelation × Places) => (∀ t, t ∈ st.1 → GoodT t) ∧ st.1.length = j) (by simp) ?_ ?_
    · rintro j t ⟨T, A⟩ ht ⟨g1, g2⟩
      dsimp only at g1 g2
      have hj : j < s.Tables.length := (List.getElem?_eq_some_iff.1 ht).1
      unfold schema_New.b0
      refine Tot.to (table_tot k (by omega) (b := ⟨some L, T, A, [], [], m⟩) rfl hL t (hs t (List.mem_of_getElem? ht)) (by simp only []; omega)) fun r hr => ?_
      refine Tot.ndec (fun h => Tot.ret (.inr ⟨_, rfl, rfl, h⟩)) (fun h => Tot.ret ?_)
      obtain ⟨x, hx, hx'⟩ := hr h
      dsimp only at hx ⊢
      rw [hx]
      refine ⟨fun y hy => ?_, by simp [g2]⟩
      rcases List.mem_append.1 hy with hy | hy
      · exact g1 y hy
      · rw [List.mem_singleton.1 hy]; exact hx'
    · rintro ⟨T, A⟩ ⟨g1, g2⟩
      exact .inl ⟨T, A, rfl, g1, g2⟩
  obtain ⟨r, hr, ⟨T, A, rfl, hT, hTl⟩ | ⟨e, rfl, he1, he2⟩⟩ := htab
  · rw [hr, Option.bind_some, Lr.k]
    rcases named08 k (c := ⟨some L, T, A, [], [], m⟩) rfl s.Channels (by omega) with ⟨hg, hn⟩ | ⟨e, hn, he⟩
    · rw [hn, Option.bind_some]
      refine Tot.ndec (fun h => absurd rfl h) (fun _ => ?_)
      rcases named08 k (c := ⟨some L, T, A, s.Channels.map (nm L), [], m⟩) rfl s.Principals (by omega) with ⟨hg', hn'⟩ | ⟨e, hn', he⟩
      · rw [hn', Option.bind_some]
        refine Tot.ndec (fun h => absurd rfl h) (fun _ => Tot.ret (.inr ⟨rfl, _, rfl, hT, by simp only []; omega, L, rfl, rfl, hg.2, hg'.2, by omega, by omega, ?_⟩))
        intro ch pr hch hpr
        have l1 := hch.length_le
        have l2 := hpr.length_le
        rw [hNew]
        simp only []
        rw [hd, Option.bind_some]
        simp only [decide_true, Bool.not_true, cond_false]
        rw [decide_eq_false (show ¬ (20 : Int) < max (max (s.Tables.length : Int) (ch.length : Int)) (pr.length : Int) by omega), decide_eq_false hl0, decide_eq_false hl1]
        simp only [cond_false, Option.bind_some]
        rw [hm, Option.bind_some, hr, Option.bind_some, Lr.k, named_good k (c := ⟨some L, T, A, [], [], m⟩) rfl ch (by omega) (hg.sub hch), Option.bind_some]
        simp only [decide_true, Bool.not_true, cond_false]
        rw [named_good k (c := ⟨some L, T, A, ch.map (nm L), [], m⟩) rfl pr (by omega) (hg'.sub hpr), Option.bind_some]
        rfl
      · rw [hn', Option.bind_some]
        exact Tot.ndec (fun h => Tot.ret (.inl ⟨rfl, h⟩)) (fun h => absurd (he.symm.trans h) (by decide))
    · rw [hn, Option.bind_some]
      exact Tot.ndec (fun h => Tot.ret (.inl ⟨rfl, h⟩)) (fun h => absurd (he.symm.trans h) (by decide))
  · rw [hr, Option.bind_some, Lr.k]
    exact Tot.ret (.inl ⟨he1, he2⟩)
end Go.Proofs.YtliaopbgkcdibaaGreat
