/- Schemas, in plain words: a schema without one of its channels, or of its principals; all else is as before. No program in sight. -/
import Derived.Test.YtliaopbgkcdibaaGreatPe
set_option linter.unusedVariables false
set_option linter.unusedSimpArgs false
set_option maxRecDepth 100000
namespace Go.Proofs.YtliaopbgkcdibaaGreat
theorem getO_at {α : Type} {l : List α} {j : Nat} {x : α} (h : l[j]? = some x) : getO l (j : Int) = some x := by
  unfold getO; rw [if_pos (by omega)]; simpa using h
theorem set_same {α : Type} {l : List α} {j : Nat} {x : α} (h : l[j]? = some x) : setO l (j : Int) x = l := by
  obtain ⟨hj, he⟩ := List.getElem?_eq_some_iff.1 h
  unfold setO; rw [Int.toNat_natCast, ← he]; simp
theorem tables_eq (k : Nat) (c : Tschema_Catalog) (hT : ∀ t, t ∈ c.tables_ → GoodT t) (hl : c.tables_.length ≤ 1000) : schema_Catalog_Tables k (some c) = some c.tables_ := by
  have : Tot (schema_Catalog_Tables k (some c)) fun r => r = c.tables_ := by
    unfold schema_Catalog_Tables
    refine Tot.cond (fun h => by simp at h) (fun _ => Tot.optE rfl ?_)
    have hcl : slices_Clone_api_Relation_api_Relation k c.tables_ = some c.tables_ := by
      unfold slices_Clone_api_Relation_api_Relation
      rw [show lim (([]:List TRelation).length + c.tables_.length) = some () from by unfold lim; rw [if_pos (by simp; omega)]]; simp
    rw [hcl, Option.bind_some]
    refine Tot.bind (Tot.forL (fun _ d => d = c.tables_) rfl ?_ fun d hd => Tot.ret hd)
    rintro j t d hd rfl
    obtain ⟨h1, h2, h3⟩ := hT t (List.mem_of_getElem? hd)
    unfold schema_Catalog_Tables.b0
    have e1 : slices_Clone_api_Field_api_Field k t.Cols = some t.Cols := by
      unfold slices_Clone_api_Field_api_Field
      rw [show lim (([]:List TField).length + t.Cols.length) = some () from by unfold lim; rw [if_pos (by simp; omega)]]; simp
    have e2 : slices_Clone_int_int k t.Key = some t.Key := by
      unfold slices_Clone_int_int
      rw [show lim (([]:List Int).length + t.Key.length) = some () from by unfold lim; rw [if_pos (by simp; omega)]]; simp
    have e3 : slices_Clone_api_Expr_api_Expr k t.When = some t.When := clone_expr k _ (by
      rcases h1 with h1 | ⟨x, cols, h1, _⟩ <;> rw [h1] <;> simp)
    have eta : (⟨t.Name, t.Rows, t.Cols, t.Key, t.Hide, t.When⟩ : TRelation) = t := rfl
    rw [Nat.zero_add]
    simp only [getO_at hd, Option.bind_some, e1, e2, e3, eta, set_same hd]
    exact Tot.ret rfl
  obtain ⟨r, hr, rfl⟩ := this
  exact hr
theorem ints_same (k : Nat) (l : List Int) : ref03_Ints k l l = some true := by
  have : Tot (ref03_Ints k l l) fun r => r = true := by
    unfold ref03_Ints
    refine Tot.ndec (fun h => absurd rfl h) (fun _ => Tot.bind (Tot.forL (fun _ _ => True) trivial (fun j x s hx _ => ?_) fun _ _ => Tot.ret rfl))
    unfold ref03_Ints.b0
    rw [Nat.zero_add, getO_at hx, Option.bind_some]
    exact Tot.ndec (fun h => absurd rfl h) (fun _ => Tot.ret trivial)
  obtain ⟨r, hr, rfl⟩ := this
  exact hr
theorem exprs_same (k : Nat) (l : List TExpr) (h : ∀ x, x ∈ l → ref06_SameExpr k x x = some true) : ref06_SameExprs (k + 1) l l = some true := by
  have : Tot (ref06_SameExprs (k + 1) l l) fun r => r = true := by
    show Tot (ref06_SameExprs.F k _ _ _ _ _ l l) _
    unfold ref06_SameExprs.F
    refine Tot.ndec (fun h => absurd rfl h) (fun _ => Tot.bind (Tot.forL (fun _ _ => True) trivial (fun j x s hx _ => ?_) fun _ _ => Tot.ret rfl))
    unfold ref06_SameExprs.b0
    rw [Nat.zero_add, getO_at hx, Option.bind_some, h x (List.mem_of_getElem? hx), Option.bind_some]
    exact Tot.ret trivial
  obtain ⟨r, hr, rfl⟩ := this
  exact hr
theorem expr_same {cols : Places} : ∀ (m k : Nat) (x : TExpr), 2 * m < k → Prd cols m x → ref06_SameExpr k x x = some true
  | 0, _, _, _, h => h.elim
  | m + 1, 0, _, h, _ => by omega
  | m + 1, 1, _, h, _ => by omega
  | m + 1, k + 2, x, hk, h => by
    have e1 := exprs_same k x.Kids fun y hy => expr_same m k y (by omega) (h.2.1 y hy)
    have e2 : ref06_SameQueries (k + 1) x.Q x.Q = some true := by
      rw [h.1]; rfl
    show ref06_SameExpr.F (k + 1) _ _ _ _ _ x x = some true
    unfold ref06_SameExpr.F
    simp only [decide_true, cond_true, e1, e2, Option.bind_some]
theorem same_tables (k : Nat) (hk : 1000 ≤ k) (l : List TRelation) (hT : ∀ t, t ∈ l → GoodT t) : ref08_SameTables k l l = some true := by
  have : Tot (ref08_SameTables k l l) fun r => r = true := by
    unfold ref08_SameTables
    refine Tot.ndec (fun h => absurd rfl h) (fun _ => Tot.bind (Tot.forL (fun _ _ => True) trivial (fun j x s hx _ => ?_) fun _ _ => Tot.ret rfl))
    obtain ⟨h1, h2, h3⟩ := hT x (List.mem_of_getElem? hx)
    have e1 : ref06_SameExprs k x.When x.When = some true := by
      obtain ⟨k', rfl⟩ : ∃ k', k = k' + 1 := ⟨k - 1, by omega⟩
      refine exprs_same k' _ fun y hy => ?_
      rcases h1 with h1 | ⟨z, cols, h1, hp⟩
      · rw [h1] at hy; simp at hy
      · rw [h1, List.mem_singleton] at hy; subst hy
        exact expr_same 40 k' y (by omega) hp
    unfold ref08_SameTables.b0
    rw [Nat.zero_add, getO_at hx, Option.bind_some, Option.bind_some]
    simp only [decide_true, Bool.not_true, cond_false, ints_same, e1, Option.bind_some]
    refine Tot.bind (Tot.forL (fun _ _ => True) trivial (fun j' y s hy _ => ?_) fun _ _ => Tot.ret trivial)
    unfold ref08_SameTables.b1
    simp only []
    rw [Nat.zero_add, getO_at hy, Option.bind_some]
    simp only [decide_true, beq_self_eq_true, Bool.and_self, Bool.not_true, cond_false]
    exact Tot.ret trivial
  obtain ⟨r, hr, rfl⟩ := this
  exact hr
theorem look (k : Nat) (l : List TNamed) (s : ByteArray) : Tot (schema_find k l s) fun r => (∃ a, a ∈ l ∧ a.Name = s ∧ r = (a.Level, true)) ∨ ((∀ a, a ∈ l → a.Name ≠ s) ∧ r = (0, false)) := by
  unfold schema_find
  refine Tot.bind (Tot.forL (fun j _ => ∀ a, a ∈ l.take j → a.Name ≠ s) (by simp) (fun j x u hx hs => ?_) fun _ hs => Tot.ret (.inr ⟨by rwa [List.take_length] at hs, rfl⟩))
  unfold schema_find.b0
  refine Tot.dec (fun h => Tot.ret (Tot.ret (.inl ⟨x, List.mem_of_getElem? hx, h, rfl⟩))) (fun h => Tot.ret fun a ha => ?_)
  obtain ⟨hj, hx'⟩ := List.getElem?_eq_some_iff.1 hx
  rw [List.take_succ_eq_append_getElem hj, List.mem_append, hx', List.mem_singleton] at ha
  rcases ha with ha | rfl
  · exact hs a ha
  · exact h
theorem apart_eq {l : List TPair} (h : l.Pairwise fun p q => p.Low ≠ q.Low) {p q : TPair} (hp : p ∈ l) (hq : q ∈ l) (e : p.Low = q.Low) : p = q := by
  induction l with
  | nil => simp at hp
  | cons x l ih =>
    obtain ⟨h1, h2⟩ := List.pairwise_cons.1 h
    rcases List.mem_cons.1 hp with e1 | hp' <;> rcases List.mem_cons.1 hq with e2 | hq'
    · rw [e1, e2]
    · exact absurd (e1 ▸ e) (h1 q hq')
    · exact absurd (e2 ▸ e.symm) (h1 p hp')
    · exact ih h2 hp' hq'
/-- A list without its i-th. -/
def wout (l : List TPair) (i : Nat) : List TPair := l.take i ++ l.drop (i + 1)
theorem wout_sub (l : List TPair) (i : Nat) : (wout l i).Sublist l := by
  unfold wout
  rw [← List.eraseIdx_eq_take_drop_succ]
  exact List.eraseIdx_sublist l i
theorem wout_mem {l : List TPair} (h : l.Pairwise fun p q => p.Low ≠ q.Low) {i : Nat} {g : TPair} (hg : l[i]? = some g) {p : TPair} (hp : p ∈ l) : p ∈ wout l i ↔ p.Low ≠ g.Low := by
  obtain ⟨hi, he⟩ := List.getElem?_eq_some_iff.1 hg
  have h1 : l = l.take i ++ g :: l.drop (i + 1) := by rw [← he]; simp
  rw [h1, List.pairwise_append, List.pairwise_cons] at h
  obtain ⟨_, ⟨a2, _⟩, a3⟩ := h
  unfold wout
  constructor
  · intro hm
    rcases List.mem_append.1 hm with hm | hm
    · exact a3 p hm g List.mem_cons_self
    · exact fun e => a2 p hm e.symm
  · intro hne
    rw [h1] at hp
    rcases List.mem_append.1 hp with hp | hp
    · exact List.mem_append_left _ hp
    · rcases List.mem_cons.1 hp with rfl | hp
      · exact absurd rfl hne
      · exact List.mem_append_right _ hp
theorem look_out (k : Nat) (L : Tlattice_Lattice) {l : List TPair} (h : l.Pairwise fun p q => p.Low ≠ q.Low) {i : Nat} {g : TPair} (hg : l[i]? = some g) {p : TPair} (hp : p ∈ l) :
    Tot (schema_find k ((wout l i).map (nm L)) (nm L p).Name) fun r => r.2 = (!decide ((nm L p).Name = g.Low)) ∧ (r.2 = true → r.1 = (nm L p).Level) := by
  refine (look k _ _).mono ?_
  rintro r (⟨a, ha, he, rfl⟩ | ⟨ha, rfl⟩)
  · obtain ⟨q, hq, rfl⟩ := List.mem_map.1 ha
    have hqp := apart_eq h ((wout_sub l i).subset hq) hp he
    subst hqp
    have := (wout_mem h hg hp).1 hq
    exact ⟨by rw [decide_eq_false (show ¬ (nm L q).Name = g.Low from this)]; rfl, fun _ => rfl⟩
  · have : p.Low = g.Low := Classical.byContradiction fun hne => ha (nm L p) (List.mem_map.2 ⟨p, (wout_mem h hg hp).2 hne, rfl⟩) rfl
    exact ⟨by rw [decide_eq_true (show (nm L p).Name = g.Low from this)]; rfl, fun h => by cases h⟩
theorem clone_named (k : Nat) (l : List TNamed) (h : l.length ≤ 1000) : slices_Clone_api_Named_api_Named k l = some l := by
  unfold slices_Clone_api_Named_api_Named
  rw [show lim (([]:List TNamed).length + l.length) = some () from by unfold lim; rw [if_pos (by simp; omega)]]; simp
theorem rem_at (p : Int) (n : Nat) (h0 : n ≠ 0) (h1 : n ≤ 1000) : ∃ i : Nat, i < n ∧ ((remO p (n : Int)).bind fun a => remO (w64 (a + (n : Int))) (n : Int)) = some (i : Int) := by
  have hn : ¬ (n : Int) = 0 := by omega
  have b1 := Int.tmod_lt_of_pos p (b := (n : Int)) (by omega)
  have b2 : -(n : Int) < p.tmod n := by
    have := Int.tmod_lt_of_pos (-p) (b := (n : Int)) (by omega)
    rw [Int.neg_tmod] at this
    omega
  have hw : w64 (p.tmod n + n) = p.tmod n + n := w64_id (by omega)
  have c1 := Int.tmod_lt_of_pos (p.tmod n + n) (b := (n : Int)) (by omega)
  have c2 := Int.tmod_nonneg (a := p.tmod n + n) (n : Int) (by omega)
  refine ⟨((p.tmod n + n).tmod n).toNat, by omega, ?_⟩
  unfold remO
  rw [if_neg hn, Option.bind_some, if_neg hn, hw, Int.toNat_of_nonneg c2]
theorem cut_take {α : Type} (l : List α) (i : Nat) (h : i ≤ l.length) : cutO l 0 (i : Int) = some (l.take i) := by
  unfold cutO; rw [if_pos (by omega)]; simp
theorem cut_drop {α : Type} (l : List α) (i : Nat) (h : i < l.length) (hl : l.length ≤ 1000) : cutO l (w64 ((i : Int) + 1)) (l.length : Int) = some (l.drop (i + 1)) := by
  rw [w64_id (by omega)]
  unfold cutO; rw [if_pos (by omega)]; simp
theorem SchemaParts_k (k : Nat) (hk : 1048577 ≤ k) (ha : law08_alive k = some true) (s : TSchema) (p q : Int) : Tot (law08_SchemaParts k s p q) fun r => r = true := by
  unfold law08_SchemaParts
  have alive : Tot ((law08_alive k).bind fun z => some z) fun r => r = true := by rw [ha]; exact Tot.ret rfl
  obtain ⟨b, hb, hb'⟩ := few08_tot k (by omega) s
  rw [hb, Option.bind_some]
  cases b
  · exact alive
  have hlight := hb' rfl
  simp only [Bool.not_true, cond_false]
  by_cases hc0 : (s.Channels.length : Int) = 0
  · rw [decide_eq_true hc0]; exact alive
  rw [decide_eq_false hc0]
  by_cases hp0 : (s.Principals.length : Int) = 0
  · rw [decide_eq_true hp0]; exact alive
  rw [decide_eq_false hp0]
  simp only [cond_false, Option.bind_some]
  obtain ⟨d, hd, ⟨h1, h2⟩ | ⟨h2, c, h1, hM⟩⟩ := new08 k hk s hlight
  · rw [hd, Option.bind_some]
    refine Tot.ndec (fun _ => ?_) (fun h => absurd h h2)
    rw [h1]
    simp only [Option.isNone_none, cond_true]
    rw [ha]; exact Tot.ret rfl
  rw [hd, Option.bind_some]
  refine Tot.ndec (fun h => absurd h2 h) (fun _ => ?_)
  obtain ⟨L, m1, m2, m3, m4, m5, m6, m7⟩ := hM.all
  obtain ⟨i, hi, hi'⟩ := rem_at p s.Channels.length (by omega) (by omega)
  obtain ⟨j, hj, hj'⟩ := rem_at q s.Principals.length (by omega) (by omega)
  have step : ∀ {β : Type} (p : Int) (n : Nat) (i : Nat) (f : Int → Option β), ((remO p (n : Int)).bind fun a => remO (w64 (a + (n : Int))) (n : Int)) = some (i : Int) → ((remO p (n : Int)).bind fun a => (remO (w64 (a + (n : Int))) (n : Int)).bind f) = f (i : Int) := by
    intro β p n i f h
    cases hr : remO p (n : Int) with
    | none => rw [hr] at h; cases h
    | some a =>
      rw [hr, Option.bind_some] at h
      rw [Option.bind_some, h, Option.bind_some]
  rw [step p _ i _ hi', step q _ j _ hj']
  obtain ⟨g, hg⟩ : ∃ g, s.Channels[i]? = some g := ⟨_, List.getElem?_eq_getElem hi⟩
  obtain ⟨g', hg'⟩ : ∃ g, s.Principals[j]? = some g := ⟨_, List.getElem?_eq_getElem hj⟩
  rw [getO_at hg, Option.bind_some, getO_at hg', Option.bind_some, cut_take _ _ (by omega), Option.bind_some, cut_drop _ _ hi (by omega), Option.bind_some]
  have l1 : lim (([] : List TPair).length + (s.Channels.take i).length) = some () := by unfold lim; rw [if_pos (by simp; omega)]
  have l2 : lim ((([] : List TPair) ++ s.Channels.take i).length + (s.Channels.drop (i + 1)).length) = some () := by unfold lim; rw [if_pos (by simp; omega)]
  have l3 : lim (([] : List TPair).length + (s.Principals.take j).length) = some () := by unfold lim; rw [if_pos (by simp; omega)]
  have l4 : lim ((([] : List TPair) ++ s.Principals.take j).length + (s.Principals.drop (j + 1)).length) = some () := by unfold lim; rw [if_pos (by simp; omega)]
  rw [l1, Option.bind_some, l2, Option.bind_some, cut_take _ _ (by omega), Option.bind_some, cut_drop _ _ hj (by omega), Option.bind_some, l3, Option.bind_some, l4, Option.bind_some]
  rw [show (([] : List TPair) ++ s.Channels.take i) ++ s.Channels.drop (i + 1) = wout s.Channels i from rfl, show (([] : List TPair) ++ s.Principals.take j) ++ s.Principals.drop (j + 1) = wout s.Principals j from rfl]
  rw [m7 _ _ (wout_sub s.Channels i) (wout_sub s.Principals j), Option.bind_some, h1]
  have t1 := tables_eq k c hM.tabs (by have := hM.few; omega)
  have t2 := tables_eq k ⟨c.lattice_, c.tables_, c.at_, (wout s.Channels i).map (nm L), (wout s.Principals j).map (nm L), c.limit_⟩ hM.tabs (by have := hM.few; simp only []; omega)
  simp only [decide_true, Bool.not_true, cond_false, Option.isNone_some, t1, t2, Option.bind_some, same_tables k (by omega) _ hM.tabs]
  have c1 : schema_Catalog_Channels k (some c) = some c.channels_ := by
    unfold schema_Catalog_Channels
    simp only [Option.isNone_some, cond_false, optE]
    rw [clone_named k _ (by rw [m1]; simp; omega)]; rfl
  have c2 : schema_Catalog_Principals k (some c) = some c.principals_ := by
    unfold schema_Catalog_Principals
    simp only [Option.isNone_some, cond_false, optE]
    rw [clone_named k _ (by rw [m2]; simp; omega)]; rfl
  have w1 := (wout_sub s.Channels i).length_le
  have w2 := (wout_sub s.Principals j).length_le
  rw [c1, Option.bind_some]
  refine Tot.bind (Tot.forL (fun _ _ => True) trivial ?_ fun _ _ => ?_)
  · intro n x u hx _
    rw [m1] at hx
    obtain ⟨y, hy, rfl⟩ := List.mem_map.1 (List.mem_of_getElem? hx)
    unfold law08_SchemaParts.b1 schema_Catalog_Channel schema_Catalog_Channels
    simp only [Option.isNone_some, cond_false, optE]
    rw [clone_named k _ (by simp; omega), Option.bind_some, Option.bind_some]
    obtain ⟨r, hr, e1, e2⟩ := look_out k L m3 hg hy
    rw [hr, Option.bind_some, Option.bind_some]
    simp only [e1, beq_self_eq_true, Bool.not_true, cond_false]
    rw [e1] at e2
    cases hdd : (!decide ((nm L y).Name = g.Low))
    · exact Tot.ret trivial
    · rw [hdd] at e2
      rw [e2 rfl, decide_eq_true rfl]
      exact Tot.ret trivial
  rw [Lr.k, c2, Option.bind_some]
  refine Tot.bind (Tot.forL (fun _ _ => True) trivial ?_ fun _ _ => by rw [Lr.k]; exact alive)
  intro n x u hx _
  rw [m2] at hx
  obtain ⟨y, hy, rfl⟩ := List.mem_map.1 (List.mem_of_getElem? hx)
  unfold law08_SchemaParts.b0 schema_Catalog_Principal schema_Catalog_Principals
  simp only [Option.isNone_some, cond_false, optE]
  rw [clone_named k _ (by simp; omega), Option.bind_some, Option.bind_some]
  obtain ⟨r, hr, e1, e2⟩ := look_out k L m4 hg' hy
  rw [hr, Option.bind_some, Option.bind_some]
  simp only [e1, beq_self_eq_true, Bool.not_true, cond_false]
  rw [e1] at e2
  cases hdd : (!decide ((nm L y).Name = g'.Low))
  · exact Tot.ret trivial
  · rw [hdd] at e2
    rw [e2 rfl, decide_eq_true rfl]
    exact Tot.ret trivial
theorem alive08 : law08_alive 1048577 = some true := by decide +kernel
theorem SchemaParts_law (s : TSchema) (p q : Int) : ∃ k, law08_SchemaParts k s p q = some true := by
  obtain ⟨r, hr, rfl⟩ := SchemaParts_k 1048577 (Nat.le_refl _) alive08 s p q
  exact ⟨_, hr⟩
end Go.Proofs.YtliaopbgkcdibaaGreat
