/- Schemas, in plain words: tables, and all of a schema. No program in sight. -/
import Derived.Test.YtliaopbgkcdibaaGreatPc
import Derived.Test.YtliaopbgkcdibaaGreatLe
set_option linter.unusedVariables false
set_option linter.unusedSimpArgs false
namespace Go.Proofs.YtliaopbgkcdibaaGreat
section
variable {n : Nat} {r : Nat → Nat → Prop} {L : Tlattice_Lattice}
theorem ne0 {P : Prop} {e : Int} (h : e = 0) (he : e ≠ 0 := by simp) : P := absurd h he
theorem is_tot (k : Nat) (h : Lat n r L) (a : Int) : Tot (lattice_Lattice_is k (some L) a) fun b => b = true → 0 ≤ a ∧ a < n := by
  unfold lattice_Lattice_is
  refine Tot.bind (Tot.not (fun _ => Tot.dec (fun h0 => Tot.optE rfl (Tot.ret (Tot.ret fun hb => ?_))) (fun _ => Tot.ret (Tot.ret (by simp)))) (fun h => by simp at h))
  have := of_decide_eq_true hb
  rw [h.names] at this
  exact ⟨h0, this⟩
theorem leq_tot (k : Nat) (h : Lat n r L) (a b : Int) : Tot (lattice_Lattice_Leq k (some L) a b) fun _ => True := by
  obtain ⟨x, hx, hx'⟩ := is_tot k h a
  obtain ⟨y, hy, hy'⟩ := is_tot k h b
  cases x
  · unfold lattice_Lattice_Leq; rw [hx]; exact ⟨false, rfl, trivial⟩
  · cases y
    · unfold lattice_Lattice_Leq; rw [hx, Option.bind_some, hy]; exact ⟨false, rfl, trivial⟩
    · obtain ⟨a1, a2⟩ := hx' rfl
      obtain ⟨b1, b2⟩ := hy' rfl
      obtain ⟨v, hv, _⟩ := leq_in k h (a := a.toNat) (b := b.toNat) (by omega) (by omega)
      rw [Int.toNat_of_nonneg a1, Int.toNat_of_nonneg b1] at hv
      exact ⟨v, hv, trivial⟩
theorem find_eq (k : Nat) (L : Tlattice_Lattice) (s : ByteArray) : lattice_Lattice_Find k (some L) s = some ((mget L.at_ s).getD 0, (mget L.at_ s).isSome) := rfl
theorem find_tot (k : Nat) (L : Tlattice_Lattice) (s : ByteArray) : Tot (lattice_Lattice_Find k (some L) s) fun _ => True := ⟨_, find_eq k L s, trivial⟩
theorem levels_tot (k : Nat) {c : Tschema_Catalog} (hc : c.lattice_ = some L) (t : TTable) (b : TRelation) (hl : t.Cols.length = b.Cols.length) : Tot (schema_Catalog_levels k c t b) fun r => r.1 = 0 → r.2.2.Cols.length = b.Cols.length := by
  unfold schema_Catalog_levels
  rw [hc]
  refine Tot.to (find_tot k L _) fun d _ => Tot.not (fun _ => Tot.ret (fun _ => rfl)) (fun _ => Tot.bind (Tot.forL (fun _ (f : List TField) => f.length = b.Cols.length) rfl ?_ fun f hf => Tot.ret fun _ => hf))
  intro j x f hx hf
  unfold schema_Catalog_levels.b0
  rw [hc]
  have hj : j < t.Cols.length := (List.getElem?_eq_some_iff.1 hx).1
  refine Tot.to (find_tot k L _) fun d' _ => Tot.not (fun _ => Tot.ret (Tot.ret (fun h => ne0 h))) (fun _ => Tot.bind (Tot.getO (by omega) (by omega) fun y _ => Tot.ret ?_))
  simpa [setO] using hf
theorem contains_tot (k : Nat) (l : List Int) (v : Int) : Tot (slices_Contains_int_int k l v) fun _ => True := by
  unfold slices_Contains_int_int slices_Index_int_int
  refine Tot.bind (Tot.bind (Tot.forL (fun _ _ => True) trivial (fun j x s _ _ => ?_) fun _ _ => Tot.ret (Tot.ret trivial)))
  unfold slices_Index_int_int.b0
  exact Tot.dec (fun _ => Tot.ret (Tot.ret (Tot.ret trivial))) (fun _ => Tot.ret trivial)
theorem key_tot (k : Nat) {c : Tschema_Catalog} (hc : c.lattice_ = some L) (h : Lat n r L) (t : TTable) (b : TRelation) (g : Places) (hg : ColsOk b.Cols.length g) (hb : b.Key = []) (ht : t.Key.length ≤ 1000) : Tot (schema_Catalog_key k c t b g) fun r => r.1 = 0 → r.2.2.Key.length ≤ 1000 := by
  unfold schema_Catalog_key
  refine Tot.bind (Tot.forL (fun j (d : List Int) => d.length ≤ j ∧ ∀ v, v ∈ d → 0 ≤ v ∧ v < b.Cols.length) (by rw [hb]; simp) ?_ ?_)
  · rintro j s d hs ⟨h1, h2⟩
    have hj : j < t.Key.length := (List.getElem?_eq_some_iff.1 hs).1
    unfold schema_Catalog_key.b1
    refine Tot.bind (Tot.not (fun _ => Tot.ret (Tot.ret (Tot.ret (fun h => ne0 h)))) (fun hm => Tot.to (contains_tot k _ _) fun f _ => Tot.ret (Tot.cond (fun _ => Tot.ret (Tot.ret (fun h => ne0 h))) (fun _ => Tot.bind (Tot.lim (by simp; omega) (Tot.ret ⟨by simp; omega, fun v hv => ?_⟩)))))) 
    rcases List.mem_append.1 hv with hv | hv
    · exact h2 v hv
    · obtain ⟨w, hw⟩ := Option.isSome_iff_exists.1 hm
      rw [hw, List.mem_singleton] at hv
      rw [hv]; exact hg _ _ hw
  · rintro d ⟨h1, h2⟩
    refine Tot.bind (Tot.forL (fun _ d' => d' = d) rfl ?_ ?_)
    · rintro j v d' hv rfl
      unfold schema_Catalog_key.b0
      have hj : j < d'.length := (List.getElem?_eq_some_iff.1 hv).1
      refine Tot.bind (Tot.getO (by omega) (by omega) fun e he => ?_)
      have := h2 e (List.mem_of_getElem? he)
      refine Tot.bind (Tot.getO this.1 this.2 fun f _ => ?_)
      rw [hc]
      exact Tot.to (leq_tot k h _ _) fun _ _ => Tot.not (fun _ => Tot.ret (Tot.ret (fun h => ne0 h))) (fun _ => Tot.ret rfl)
    · rintro d' rfl
      exact Tot.ret fun _ => by simp only []; omega
def WhenOk (w : List TExpr) : Prop := w = [] ∨ ∃ x cols, w = [x] ∧ Prd cols 40 x
theorem clone_expr (k : Nat) (l : List TExpr) (h : l.length ≤ 1000) : slices_Clone_api_Expr_api_Expr k l = some l := by
  unfold slices_Clone_api_Expr_api_Expr
  rw [show lim (([]:List TExpr).length + l.length) = some () from by unfold lim; rw [if_pos (by simp; omega)]]; simp
theorem hide_tot (k : Nat) (hk : 1000 ≤ k) {c : Tschema_Catalog} (hc : c.lattice_ = some L) (h : Lat n r L) (t : TTable) (b : TRelation) (g : Places) (hg : ColsOk b.Cols.length g) (hb : b.When = []) (ht : nodesL t.When ≤ 1000) : Tot (schema_Catalog_hide k c t b g) fun r => r.1 = 0 → WhenOk r.2.2.When := by
  unfold schema_Catalog_hide
  have no : ∀ e : Int, e ≠ 0 → Tot (some (e, c, b)) fun r => r.1 = 0 → WhenOk r.2.2.When := fun e he => Tot.ret fun h => absurd h he
  refine Tot.any (Tot.dec (fun _ => Tot.ret trivial) (fun _ => Tot.ret trivial)) fun m => Tot.cond (fun _ => Tot.ret fun _ => .inl hb) (fun _ => ?_)
  rw [hc]
  refine Tot.to (find_tot k L _) fun f _ => Tot.not (fun _ => no _ (by decide)) (fun _ => Tot.to (leq_tot k h _ _) fun o _ => Tot.not (fun _ => no _ (by decide)) (fun _ => Tot.ndec (fun _ => no _ (by decide)) (fun hl => Tot.bind (Tot.getO (by omega) (by omega) fun x hx => ?_))))
  obtain ⟨x', hx'⟩ : ∃ x', t.When = [x'] := by
    match t.When, hl with
    | [x'], _ => exact ⟨x', rfl⟩
  rw [hx'] at hx ht
  have hxe : x' = x := by simpa using hx
  subst hxe
  have hn : nodes x' ≤ 1000 := by simp only [nodesL] at ht; omega
  refine Tot.to (shape_tot g 40 k ⟨t.Name, g, some b, []⟩ x' (by omega) (by omega) rfl (by simp only [List.length_nil]; omega)) fun e he => ?_
  obtain ⟨⟨u1, u2⟩, hp⟩ := he
  refine Tot.not (fun _ => no _ (by decide)) (fun hs => ?_)
  have hprd := hp hs
  refine Tot.to (typeOf_tot (cols := g) (q := ⟨t.Name, g, some b, e.2.used_⟩) rfl rfl hg 40 k x' (by omega) hprd) fun ty _ => ?_
  refine Tot.any (Tot.ndec (fun _ => Tot.ret trivial) (fun _ => Tot.ret trivial)) fun l => Tot.cond (fun _ => no _ (by decide)) (fun _ => Tot.bind (Tot.forL (fun _ d' => d' = e.2.used_) rfl ?_ ?_))
  · rintro j v d' hv rfl
    unfold schema_Catalog_hide.b0
    have hj : j < e.2.used_.length := (List.getElem?_eq_some_iff.1 hv).1
    refine Tot.bind (Tot.getO (by omega) (by omega) fun w hw => ?_)
    rcases u2 w (List.mem_of_getElem? hw) with h1 | ⟨s, h1⟩
    · simp at h1
    · have := hg _ _ h1
      refine Tot.bind (Tot.getO this.1 this.2 fun f' _ => ?_)
      rw [hc]
      exact Tot.to (leq_tot k h _ _) fun _ _ => Tot.not (fun _ => Tot.ret (Tot.ret (fun h => ne0 h))) (fun _ => Tot.ret rfl)
  · rintro d' rfl
    rw [Lr.k, clone_expr k _ (by rw [hx']; simp)]
    exact Tot.ret fun _ => .inr ⟨x', g, hx', hprd⟩
def GoodT (t : TRelation) : Prop := WhenOk t.When ∧ t.Cols.length ≤ 40 ∧ t.Key.length ≤ 1000
theorem typed_tot (k : Nat) (t : TTable) : Tot (schema_Catalog_table_1 k (some t)) fun _ => True := by
  unfold schema_Catalog_table_1 schema_typed
  refine Tot.optE rfl (Tot.bind (Tot.bind (Tot.forL (fun _ _ => True) trivial (fun j x s _ _ => ?_) fun _ _ => Tot.ret (Tot.ret trivial))))
  unfold schema_typed.b0
  exact Tot.any (Tot.dec (fun _ => Tot.ret trivial) (fun _ => Tot.ret trivial)) fun b => Tot.cond (fun _ => Tot.ret (Tot.ret (Tot.ret trivial))) (fun _ => Tot.ret trivial)
theorem table_tot (k : Nat) (hk : 1000 ≤ k) {b : Tschema_Catalog} (hc : b.lattice_ = some L) (h : Lat n r L) (t : TTable) (ht : lightT t) (hb : b.tables_.length ≤ 1000) : Tot (schema_Catalog_table k b t) fun r => r.1 = 0 → ∃ x, r.2.tables_ = b.tables_ ++ [x] ∧ GoodT x := by
  unfold schema_Catalog_table
  have no : ∀ e : Int, ¬ e = 0 → Tot (some (e, b)) fun r => r.1 = 0 → ∃ x, r.2.tables_ = b.tables_ ++ [x] ∧ GoodT x := fun e he => Tot.ret fun h => absurd h he
  refine Tot.bind (Tot.dec (fun _ => Tot.ret (no _ (by decide))) (fun _ => Tot.ret (Tot.dec (fun _ => no _ (by decide)) (fun h40 => Tot.bind ?_))))
  refine Tot.cond (fun _ => Tot.ret (no _ (by decide))) (fun _ => Tot.ret (Tot.dec (fun _ => no _ (by decide)) (fun _ => Tot.bind ?_)))
  refine Tot.forL (fun j (s : List TField × Places) => s.1.length = j ∧ ColsOk j s.2) ⟨rfl, fun s v h => by simp [mget] at h⟩ ?_ ?_
  · rintro j x ⟨f, m⟩ hx ⟨g1, g2⟩
    have hj : j < t.Cols.length := (List.getElem?_eq_some_iff.1 hx).1
    dsimp only at g1 g2
    unfold schema_Catalog_table.b0
    refine Tot.any (Tot.cond (fun _ => Tot.ret trivial) (fun _ => Tot.ret trivial)) fun d => Tot.cond (fun _ => Tot.ret (no _ (by decide))) (fun _ => Tot.bind (Tot.lim (by simp; omega) (Tot.ret ⟨by simp [g1], fun s v hv => ?_⟩)))
    simp only [mget_mput] at hv
    split at hv
    · cases hv; omega
    · have := g2 s v hv; omega
  · rintro ⟨f, m⟩ ⟨g1, g2⟩
    dsimp only at g1 g2
    refine Tot.to (typed_tot k t) fun h1 _ => Tot.ndec (fun hh => no _ hh) (fun _ => ?_)
    refine Tot.to (levels_tot k hc t ⟨t.Name, 0, f, [], -1, []⟩ g1.symm) fun d hd => Tot.ndec (fun hh => no _ hh) (fun hd0 => ?_)
    have hdl : d.2.2.Cols.length = t.Cols.length := (hd hd0).trans g1
    refine Tot.to (key_tot k hc h t ⟨t.Name, d.2.2.Rows, d.2.2.Cols, [], -1, []⟩ m (by rw [hdl]; exact g2) rfl ht.1) fun e he => Tot.ndec (fun hh => no _ hh) (fun he0 => ?_)
    refine Tot.to (hide_tot k hk hc h t ⟨t.Name, d.2.2.Rows, d.2.2.Cols, e.2.2.Key, -1, []⟩ m (by rw [hdl]; exact g2) rfl ht.2) fun w hw => Tot.ndec (fun hh => no _ hh) (fun hw0 => ?_)
    exact Tot.bind (Tot.lim (by simp; omega) (Tot.ret fun _ => ⟨_, rfl, hw hw0, by simp only []; omega, he he0⟩))
end
end Go.Proofs.YtliaopbgkcdibaaGreat
