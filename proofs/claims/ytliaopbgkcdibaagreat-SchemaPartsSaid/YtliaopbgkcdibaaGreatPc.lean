/- Schemas, in plain words: a table is looked up, and what it says which rows are hidden by. No program in sight. -/
import Derived.Test.YtliaopbgkcdibaaGreatPb
import Derived.Test.YtliaopbgkcdibaaGreatCxF
set_option linter.unusedVariables false
set_option linter.unusedSimpArgs false
namespace Go.Proofs.YtliaopbgkcdibaaGreat
theorem mget_mput {K V : Type} [DecidableEq K] (l : List (K × V)) (k k' : K) (v : V) : mget (mput l k v) k' = if k = k' then some v else mget l k' := by
  induction l with
  | nil => simp [mput, mget]
  | cons p l ih =>
    unfold mput
    by_cases h : p.1 = k
    · rw [if_pos h]
      unfold mget
      dsimp only
      by_cases h' : k = k'
      · simp [h']
      · simp [h', h]
    · rw [if_neg h]
      unfold mget
      by_cases h' : p.1 = k'
      · rw [if_pos h', if_pos h', if_neg (by rintro rfl; exact h h')]
      · rw [if_neg h', if_neg h', ih]
/-! ### A predicate -/
abbrev Places := List (ByteArray × Int)
def Prd (cols : Places) : Nat → TExpr → Prop
  | 0, _ => False
  | m + 1, x => x.Q = [] ∧ (∀ y, y ∈ x.Kids → Prd cols m y) ∧ (((x.Kind = 1 ∨ x.Kind = 2 ∨ x.Kind = 3 ∨ x.Kind = 4) ∧ x.Kids.length = 0) ∨ (x.Kind = 5 ∧ x.Kids.length = 0 ∧ (mget cols x.S).isSome = true) ∨ (x.Kind = 11 ∧ x.Kids.length = 3) ∨ (x.Kind = 10 ∧ x.Kids.length = 2) ∨ ((x.Kind = 8 ∨ x.Kind = 9) ∧ x.Kids.length = 1))
def Used (cols : Places) (u : List Int) (n : Nat) (u' : List Int) : Prop := u'.length ≤ u.length + n ∧ ∀ v, v ∈ u' → v ∈ u ∨ ∃ s, mget cols s = some v
theorem Used.refl (cols : Places) (u : List Int) (n : Nat) : Used cols u n u := ⟨by omega, fun v h => .inl h⟩
theorem Used.trans {cols : Places} {u v w : List Int} {n m l : Nat} (h : Used cols u n v) (k : Used cols v m w) (hl : n + m ≤ l) : Used cols u l w :=
  ⟨by have := h.1; have := k.1; omega, fun x hx => by
    rcases k.2 x hx with h1 | h1
    · exact h.2 x h1
    · exact .inr h1⟩
theorem nodesL_take (l : List TExpr) (j : Nat) (x : TExpr) (h : l[j]? = some x) : nodesL (l.take (j + 1)) = nodesL (l.take j) + nodes x := by
  rw [nodesL_sum, nodesL_sum]; exact sum_take nodes l j x h
theorem nodesL_take_le (l : List TExpr) (j : Nat) : nodesL (l.take j) ≤ nodesL l := by
  induction l generalizing j with
  | nil => simp [nodesL]
  | cons x l ih =>
    cases j with
    | zero => simp [nodesL]
    | succ j => simp only [List.take_succ_cons, nodesL]; have := ih j; omega
theorem shape_j1 {cols : Places} {m k : Nat} {p : Tschema_predicate} {x : TExpr} {d : Int} {u : List Int} {n : Int} (hd : d = 40 - m) (hm : m ≤ 40) (hc : p.cols_ = cols) (hu : u.length + nodesL x.Kids ≤ 4000)
    (ih : ∀ (p : Tschema_predicate) (y : TExpr), p.cols_ = cols → p.used_.length + nodes y ≤ 4000 → Tot (schema_predicate_shape k p y (41 - m)) fun r => Used cols p.used_ (nodes y) r.2.used_ ∧ (r.1 = true → Prd cols m y)) :
    Tot (schema_predicate_shape.j1 k (schema_predicate_shape k) x p d (u, n)) fun r => Used cols u (nodesL x.Kids) r.2.used_ ∧ (r.1 = true → (x.Kids.length : Int) = n ∧ ∀ y, y ∈ x.Kids → Prd cols m y) := by
  unfold schema_predicate_shape.j1
  refine Tot.ndec (fun _ => Tot.ret ⟨Used.refl _ _ _, by simp⟩) (fun hn => ?_)
  refine Tot.bind (Tot.forL (fun j u' => Used cols u (nodesL (x.Kids.take j)) u' ∧ ∀ y, y ∈ x.Kids.take j → Prd cols m y) ⟨Used.refl _ _ _, by simp⟩ ?_ ?_)
  · rintro j y u' hy ⟨h1, h2⟩
    unfold schema_predicate_shape.b0
    have e1 := nodesL_take x.Kids j y hy
    have e2 := nodesL_take_le x.Kids (j + 1)
    have e3 := h1.1
    rw [w64_id (by omega), show d + 1 = 41 - (m : Int) by omega]
    refine Tot.to (ih _ y hc (by simp only []; omega)) ?_
    rintro r ⟨g1, g2⟩
    refine Tot.not (fun _ => Tot.ret (Tot.ret ⟨h1.trans g1 (by omega), by simp⟩)) (fun hr => Tot.ret ⟨h1.trans g1 (by omega), fun z hz => ?_⟩)
    obtain ⟨hj, hy'⟩ := List.getElem?_eq_some_iff.1 hy
    rw [List.take_succ_eq_append_getElem hj, List.mem_append, hy', List.mem_singleton] at hz
    rcases hz with hz | rfl
    · exact h2 z hz
    · exact g2 hr
  · rintro u' ⟨h1, h2⟩
    rw [List.take_length] at h1 h2
    exact Tot.ret ⟨h1, fun _ => ⟨hn, h2⟩⟩
theorem total_tot (k : Nat) (s : ByteArray) : Tot (schema_total k s) fun _ => True := by
  unfold schema_total schema_total.j0 schema_total.j1
  refine Tot.bind ?_
  have fin : ∀ b : Bool, Tot (bif b then some true else ((bif decide (s=(⟨#[60]⟩:ByteArray)) then some (decide (s=(⟨#[60]⟩:ByteArray))) else (bif decide (s=(⟨#[60,61]⟩:ByteArray)) then some (decide (s=(⟨#[60,61]⟩:ByteArray))) else (bif decide (s=(⟨#[62]⟩:ByteArray)) then some (decide (s=(⟨#[62]⟩:ByteArray))) else some (decide (s=(⟨#[62,61]⟩:ByteArray)))))).bind fun d => (bif d then some true else some false))) fun _ => True := fun b => by
    cases b
    · refine Tot.bind ?_
      have fin' : ∀ b : Bool, Tot (bif b then some true else some false) fun _ => True := fun b => by cases b <;> exact Tot.ret trivial
      exact Tot.dec (fun _ => Tot.ret (fin' _)) (fun _ => Tot.dec (fun _ => Tot.ret (fin' _)) (fun _ => Tot.dec (fun _ => Tot.ret (fin' _)) (fun _ => Tot.ret (fin' _))))
    · exact Tot.ret trivial
  exact Tot.dec (fun _ => Tot.ret (fin _)) (fun _ => Tot.dec (fun _ => Tot.ret (fin _)) (fun _ => Tot.dec (fun _ => Tot.ret (fin _)) (fun _ => Tot.ret (fin _))))
theorem shape_tot (cols : Places) : ∀ (m k : Nat) (p : Tschema_predicate) (x : TExpr), m ≤ 40 → m < k → p.cols_ = cols → p.used_.length + nodes x ≤ 4000 →
    Tot (schema_predicate_shape k p x (41 - m)) fun r => Used cols p.used_ (nodes x) r.2.used_ ∧ (r.1 = true → Prd cols m x)
  | m, 0, _, _, _, h, _, _ => by omega
  | 0, k + 1, p, x, _, _, _, _ => by
    show Tot (schema_predicate_shape.F k _ p x _) _
    unfold schema_predicate_shape.F
    refine Tot.bind (Tot.dec (fun _ => Tot.ret (Tot.ret ⟨Used.refl _ _ _, by simp⟩)) (fun h => absurd (show (40 : Int) < 41 - ((0 : Nat) : Int) by decide) h))
  | m + 1, k + 1, p, x, hm, hk, hc, hu => by
    have ih := fun p y => shape_tot cols m k p y (by omega) (by omega)
    show Tot (schema_predicate_shape.F k _ p x _) _
    have hno := nodes_eq x
    have bad : Tot (some (false, p)) fun r => Used cols p.used_ (nodes x) r.2.used_ ∧ (r.1 = true → Prd cols (m + 1) x) := Tot.ret ⟨Used.refl _ _ _, by simp⟩
    have go : ∀ (u : List Int) (n : Int), Used cols p.used_ 1 u → (((x.Kids.length : Int) = n ∧ ∀ y, y ∈ x.Kids → Prd cols m y) → Prd cols (m + 1) x) →
        Tot (schema_predicate_shape.j1 k (schema_predicate_shape k) x p (41 - ((m + 1 : Nat) : Int)) (u, n)) fun r => Used cols p.used_ (nodes x) r.2.used_ ∧ (r.1 = true → Prd cols (m + 1) x) := fun u n h1 h2 =>
      (shape_j1 (by omega) (by omega) hc (by have := h1.1; omega) ih).mono fun r hr => ⟨h1.trans hr.1 (by omega), fun ht => h2 (hr.2 ht)⟩
    have r0 := Used.refl cols p.used_ 1
    unfold schema_predicate_shape.F
    refine Tot.bind (Tot.dec (fun _ => Tot.ret bad) (fun _ => Tot.ret (Tot.dec (fun _ => bad) (fun hq => ?_))))
    have hq' : x.Q = [] := List.eq_nil_of_length_eq_zero (by omega)
    refine Tot.dec (fun h2 => Tot.bind (Tot.dec (fun _ => Tot.ret bad) (fun _ => Tot.ret (Tot.dec (fun _ => bad) (fun _ => go _ _ r0 fun hk => ⟨hq', hk.2, .inl ⟨.inr (.inl h2), by omega⟩⟩))))) (fun _ => ?_)
    refine Tot.dec (fun h4 => Tot.dec (fun _ => bad) (fun _ => go _ _ r0 fun hk => ⟨hq', hk.2, .inl ⟨.inr (.inr (.inr h4)), by omega⟩⟩)) (fun _ => ?_)
    refine Tot.bind (Tot.dec (fun h1 => Tot.ret (Tot.dec (fun _ => go _ _ r0 fun hk => ⟨hq', hk.2, .inl ⟨.inl h1, by omega⟩⟩) (fun h => absurd h1 h))) (fun _ => Tot.ret (Tot.dec (fun h3 => go _ _ r0 fun hk => ⟨hq', hk.2, .inl ⟨.inr (.inr (.inl h3)), by omega⟩⟩) (fun _ => ?_))))
    refine Tot.dec (fun h5 => ?_) (fun _ => ?_)
    · rw [hc]
      have fin : (mget cols x.S).isSome = true → Tot ((lim (p.used_.length + ([((mget cols x.S).getD (0:Int))]).length)).bind fun _=>schema_predicate_shape.j1 k (schema_predicate_shape k) x p (41 - ((m + 1 : Nat) : Int)) ((p.used_ ++ [((mget cols x.S).getD (0:Int))]),(0:Int))) fun r => Used cols p.used_ (nodes x) r.2.used_ ∧ (r.1 = true → Prd cols (m + 1) x) := fun hs => by
        refine Tot.bind (Tot.lim (by simp; omega) (go _ _ ⟨by simp, fun v hv => ?_⟩ fun hk => ⟨hq', hk.2, .inr (.inl ⟨h5, by omega, hs⟩)⟩))
        rcases List.mem_append.1 hv with hv | hv
        · exact .inl hv
        · obtain ⟨i, hi⟩ := Option.isSome_iff_exists.1 hs
          rw [hi, List.mem_singleton] at hv
          exact .inr ⟨x.S, by rw [hi, hv]; rfl⟩
      refine Tot.bind (Tot.not (fun _ => Tot.ret bad) (fun hs => ?_))
      have two : ∀ b : Bool, Tot (bif b then some (false, p) else ((lim (p.used_.length + ([((mget cols x.S).getD (0:Int))]).length)).bind fun _=>schema_predicate_shape.j1 k (schema_predicate_shape k) x p (41 - ((m + 1 : Nat) : Int)) ((p.used_ ++ [((mget cols x.S).getD (0:Int))]),(0:Int)))) fun r => Used cols p.used_ (nodes x) r.2.used_ ∧ (r.1 = true → Prd cols (m + 1) x) := fun b => Tot.cond (fun _ => bad) (fun _ => fin hs)
      exact Tot.ndec (fun _ => Tot.ret (two _)) (fun _ => Tot.ret (two _))
    refine Tot.dec (fun h11 => go _ _ r0 fun hk => ⟨hq', hk.2, .inr (.inr (.inl ⟨h11, by omega⟩))⟩) (fun _ => ?_)
    refine Tot.dec (fun h10 => ?_) (fun _ => ?_)
    · refine Tot.to (total_tot k x.S) fun b _ => ?_
      refine Tot.not (fun _ => bad) (fun _ => ?_)
      unfold schema_predicate_shape.j2
      exact go _ _ r0 fun hk => ⟨hq', hk.2, .inr (.inr (.inr (.inl ⟨h10, by have := hk.1; simp only [show w64 (w64 (0 + 1) + 1) = 2 from by decide] at this; omega⟩)))⟩
    · unfold schema_predicate_shape.j2
      have fin : (x.Kind = 8 ∨ x.Kind = 9) → Tot (schema_predicate_shape.j1 k (schema_predicate_shape k) x p (41 - ((m + 1 : Nat) : Int)) (p.used_,w64 ((0:Int) + (1:Int)))) fun r => Used cols p.used_ (nodes x) r.2.used_ ∧ (r.1 = true → Prd cols (m + 1) x) := fun h =>
        go _ _ r0 fun hk => ⟨hq', hk.2, .inr (.inr (.inr (.inr ⟨h, by have := hk.1; simp only [show w64 (0 + 1) = 1 from by decide] at this; omega⟩)))⟩
      exact Tot.bind (Tot.dec (fun h => Tot.ret (Tot.dec (fun _ => fin (.inl h)) (fun h' => absurd h h'))) (fun _ => Tot.ret (Tot.dec (fun h => fin (.inr h)) (fun _ => bad))))
def ColsOk (n : Nat) (cols : Places) : Prop := ∀ s v, mget cols s = some v → 0 ≤ v ∧ v < n
theorem logical_tot (k : Nat) (t : Int) : Tot (schema_logical k t) fun _ => True := by
  unfold schema_logical
  exact Tot.bind (Tot.dec (fun _ => Tot.ret (Tot.ret trivial)) (fun _ => Tot.ret (Tot.ret trivial)))
theorem one_tot (k : Nat) (a b : Int) : Tot (schema_one k a b) fun _ => True := by
  unfold schema_one
  have fin : ∀ d : Bool, Tot (bif d then some a else some (-1 : Int)) fun _ => True := fun d => Tot.cond (fun _ => Tot.ret trivial) (fun _ => Tot.ret trivial)
  have fin2 : ∀ e : Bool, Tot (bif e then some (-1:Int) else (bif decide (a=(0:Int)) then some b else (((bif decide (b=(0:Int)) then some true else some (decide (a=b)))).bind fun d=>(bif d then some a else some (-1:Int))))) fun _ => True := fun e =>
    Tot.cond (fun _ => Tot.ret trivial) (fun _ => Tot.dec (fun _ => Tot.ret trivial) (fun _ => Tot.bind (Tot.dec (fun _ => Tot.ret (fin _)) (fun _ => Tot.ret (fin _)))))
  exact Tot.bind (Tot.dec (fun _ => Tot.ret (fin2 _)) (fun _ => Tot.ret (fin2 _)))
theorem typeOf_tot {cols : Places} {q : Tschema_predicate} {rel : TRelation} (hq : q.cols_ = cols) (hr : q.r_ = some rel) (hc : ColsOk rel.Cols.length cols) : ∀ (m k : Nat) (x : TExpr), 2 * m < k → Prd cols m x → Tot (schema_predicate_typeOf k (some q) x) fun _ => True
  | 0, _, _, _, h => h.elim
  | m + 1, k + 2, x, hk, h => by
    obtain ⟨_, hkids, hkind⟩ := h
    have kid : ∀ i : Int, 0 ≤ i → i < x.Kids.length → Tot (schema_predicate_typeOf_1 (k + 1) i (some (some q)) (some x)) fun _ => True := fun i h0 h1 => by
      show Tot (schema_predicate_typeOf_1.F k _ _ i (some (some q)) (some x)) _
      unfold schema_predicate_typeOf_1.F
      refine Tot.optE rfl (Tot.optE rfl (Tot.bind (Tot.getO h0 h1 fun y hy => ?_)))
      exact Tot.to (typeOf_tot hq hr hc m k y (by omega) (hkids y (List.mem_of_getElem? hy))) fun _ _ => Tot.ret trivial
    show Tot (schema_predicate_typeOf.F (k + 1) _ _ (some q) x) _
    unfold schema_predicate_typeOf.F
    have ok : ∀ v : Int, Tot (some v) fun _ => True := fun v => Tot.ret trivial
    refine Tot.dec (fun _ => ok _) (fun n1 => Tot.dec (fun _ => ok _) (fun n2 => Tot.dec (fun _ => ok _) (fun n3 => Tot.dec (fun _ => ok _) (fun n4 => Tot.dec (fun h5 => ?_) (fun n5 => Tot.dec (fun h8 => ?_) (fun n8 => Tot.dec (fun h9 => ?_) (fun n9 => Tot.dec (fun h11 => ?_) (fun n11 => ?_))))))))
    · have hs : (mget cols x.S).isSome = true := by
        rcases hkind with ⟨h, _⟩ | ⟨_, _, h⟩ | ⟨h, _⟩ | ⟨h, _⟩ | ⟨h, _⟩
        · omega
        · exact h
        all_goals omega
      obtain ⟨v, hv⟩ := Option.isSome_iff_exists.1 hs
      have := hc _ _ hv
      refine Tot.optE rfl (Tot.optE hr (Tot.bind (Tot.getO ?_ ?_ fun _ _ => ok _)))
      · rw [hq, hv]; exact this.1
      · rw [hq, hv]; exact this.2
    · have hl : x.Kids.length = 1 := by rcases hkind with h | h | h | h | h <;> omega
      exact Tot.to (kid 0 (by omega) (by omega)) fun _ _ => Tot.to (logical_tot _ _) fun _ _ => Tot.not (fun _ => ok _) (fun _ => ok _)
    · have hl : x.Kids.length = 1 := by rcases hkind with h | h | h | h | h <;> omega
      exact Tot.to (kid 0 (by omega) (by omega)) fun _ _ => Tot.dec (fun _ => ok _) (fun _ => ok _)
    · have hl : x.Kids.length = 3 := by rcases hkind with h | h | h | h | h <;> omega
      exact Tot.to (kid 0 (by omega) (by omega)) fun _ _ => Tot.to (logical_tot _ _) fun _ _ => Tot.not (fun _ => ok _) (fun _ => Tot.to (kid 1 (by omega) (by omega)) fun _ _ => Tot.to (kid 2 (by omega) (by omega)) fun _ _ => Tot.to (one_tot _ _ _) fun _ _ => ok _)
    · have hl : x.Kids.length = 2 := by rcases hkind with h | h | h | h | h <;> omega
      refine Tot.to (kid 0 (by omega) (by omega)) fun a _ => Tot.to (kid 1 (by omega) (by omega)) fun b _ => ?_
      have two : ∀ g : Bool, Tot (bif g then some (-1 : Int) else some (1 : Int)) fun _ => True := fun g => Tot.cond (fun _ => ok _) (fun _ => ok _)
      have fin : ∀ g : Bool, Tot (bif g then ((((schema_logical (k + 1) a).bind fun o=>(bif !o then some true else ((schema_logical (k + 1) b).bind fun p=>some (!p))))).bind fun h=>(bif h then some (-1:Int) else some (1:Int))) else ((schema_one (k + 1) a b).bind fun s=>(bif decide (s=(-1:Int)) then some (-1:Int) else some (1:Int)))) fun _ => True := fun g =>
        Tot.cond (fun _ => Tot.bind (Tot.to (logical_tot _ _) fun _ _ => Tot.not (fun _ => Tot.ret (two _)) (fun _ => Tot.to (logical_tot _ _) fun _ _ => Tot.ret (two _)))) (fun _ => Tot.to (one_tot _ _ _) fun _ _ => two _)
      exact Tot.bind (Tot.dec (fun _ => Tot.ret (fin _)) (fun _ => Tot.ret (fin _)))
  | m + 1, 0, _, h, _ => by omega
  | m + 1, 1, _, h, _ => by omega
end Go.Proofs.YtliaopbgkcdibaaGreat
