import Derived.Test.YtknhbphhdfknaaaGreatDoorCxW
set_option linter.unusedVariables false
set_option linter.unusedSimpArgs false
namespace Go.Proofs.YtknhbphhdfknaaaGreatDoor
open Go.RowKit
inductive Trie (α : Type) where
 | leaf
 | node (v : Option α) (l r : Trie α)
namespace Trie
variable {α : Type}
noncomputable def get (t : Trie α) : Nat → Option α := Trie.rec (motive := fun _ => Nat → Option α) (fun _ => none) (fun v _ _ il ir k => Nat.rec (motive := fun _ => Option α) v (fun k _ => Bool.rec (motive := fun _ => Option α) (ir (k / 2)) (il (k / 2)) (Nat.beq (k % 2) 0)) k) t
noncomputable def set (f : Nat) : Trie α → Nat → α → Trie α := Nat.rec (motive := fun _ => Trie α → Nat → α → Trie α) (fun _ _ _ => .leaf) (fun _ ih t k x => Trie.rec (motive := fun _ => Trie α) (Nat.rec (motive := fun _ => Trie α) (.node (some x) .leaf .leaf) (fun k _ => Bool.rec (motive := fun _ => Trie α) (.node none .leaf (ih .leaf (k / 2) x)) (.node none (ih .leaf (k / 2) x) .leaf) (Nat.beq (k % 2) 0)) k) (fun v l r _ _ => Nat.rec (motive := fun _ => Trie α) (.node (some x) l r) (fun k _ => Bool.rec (motive := fun _ => Trie α) (.node v l (ih r (k / 2) x)) (.node v (ih l (k / 2) x) r) (Nat.beq (k % 2) 0)) k) t) f
theorem get_leaf (k : Nat) : (.leaf : Trie α).get k = none := rfl
theorem get_zero (v : Option α) (l r : Trie α) : (Trie.node v l r).get 0 = v := rfl
theorem get_succ (v : Option α) (l r : Trie α) (k : Nat) : (Trie.node v l r).get (k + 1) = bif Nat.beq (k % 2) 0 then l.get (k / 2) else r.get (k / 2) := by
 show Bool.rec (motive := fun _ => Option α) (r.get (k / 2)) (l.get (k / 2)) (Nat.beq (k % 2) 0) = _
 cases Nat.beq (k % 2) 0 <;> rfl
theorem set_0 (t : Trie α) (k : Nat) (x : α) : set 0 t k x = .leaf := rfl
theorem set_lz (f : Nat) (x : α) : set (f + 1) .leaf 0 x = .node (some x) .leaf .leaf := rfl
theorem set_ls (f k : Nat) (x : α) : set (f + 1) .leaf (k + 1) x = bif Nat.beq (k % 2) 0 then .node none (set f .leaf (k / 2) x) .leaf else .node none .leaf (set f .leaf (k / 2) x) := by
 show Bool.rec (motive := fun _ => Trie α) (.node none .leaf (set f .leaf (k / 2) x)) (.node none (set f .leaf (k / 2) x) .leaf) (Nat.beq (k % 2) 0) = _
 cases Nat.beq (k % 2) 0 <;> rfl
theorem set_nz (f : Nat) (v : Option α) (l r : Trie α) (x : α) : set (f + 1) (.node v l r) 0 x = .node (some x) l r := rfl
theorem set_ns (f : Nat) (v : Option α) (l r : Trie α) (k : Nat) (x : α) : set (f + 1) (.node v l r) (k + 1) x = bif Nat.beq (k % 2) 0 then .node v (set f l (k / 2) x) r else .node v l (set f r (k / 2) x) := by
 show Bool.rec (motive := fun _ => Trie α) (.node v l (set f r (k / 2) x)) (.node v (set f l (k / 2) x) r) (Nat.beq (k % 2) 0) = _
 cases Nat.beq (k % 2) 0 <;> rfl
theorem half {k k' : Nat} (h : k / 2 = k' / 2) (h2 : k % 2 = k' % 2) : k = k' := by omega
theorem nb {k : Nat} : (Nat.beq (k % 2) 0 = true ∧ k % 2 = 0) ∨ (Nat.beq (k % 2) 0 = false ∧ k % 2 = 1) := by
 rcases Nat.mod_two_eq_zero_or_one k with h | h
 · exact .inl ⟨by rw [h]; rfl, h⟩
 · exact .inr ⟨by rw [h]; rfl, h⟩
theorem get_set : ∀ (f : Nat) (t : Trie α) (k : Nat) (x : α) (k' : Nat) (u : α), (set f t k x).get k' = some u → (k' = k ∧ u = x) ∨ (k' ≠ k ∧ t.get k' = some u)
 | 0, _, _, _, _, _, h => by simp [set_0, set_lz, set_nz, get_leaf, get_zero, get_succ] at h
 | f + 1, .leaf, k, x, k', u, h => by
  cases k with
  | zero =>
   cases k' with
   | zero => simp [set_0, set_lz, set_nz, get_leaf, get_zero, get_succ] at h; exact .inl ⟨rfl, h.symm⟩
   | succ k' => simp only [set_0, set_lz, set_nz, get_leaf, get_zero, get_succ] at h; rcases nb (k := k') with ⟨h1, _⟩ | ⟨h1, _⟩ <;> rw [h1] at h <;> simp at h
  | succ k =>
   have ih := get_set f .leaf (k / 2) x
   cases k' with
   | zero => simp only [set_ls, set_ns] at h; rcases nb (k := k) with ⟨h1, _⟩ | ⟨h1, _⟩ <;> rw [h1] at h <;> simp [get_leaf, get_zero, get_succ] at h
   | succ k' =>
    simp only [set_ls, set_ns] at h
    rcases nb (k := k) with ⟨h1, e1⟩ | ⟨h1, e1⟩ <;> rw [h1] at h <;> simp only [cond_true, cond_false, get_leaf, get_zero, get_succ] at h <;> rcases nb (k := k') with ⟨h2, e2⟩ | ⟨h2, e2⟩ <;> rw [h2] at h <;> simp only [cond_true, cond_false] at h
    · rcases ih _ _ h with ⟨g1, g2⟩ | ⟨_, g2⟩
      · exact .inl ⟨by rw [half g1 (by omega)], g2⟩
      · simp [get_leaf, get_zero, get_succ] at g2
    · cases h
    · cases h
    · rcases ih _ _ h with ⟨g1, g2⟩ | ⟨_, g2⟩
      · exact .inl ⟨by rw [half g1 (by omega)], g2⟩
      · simp [get_leaf, get_zero, get_succ] at g2
 | f + 1, .node v l r, k, x, k', u, h => by
  cases k with
  | zero =>
   cases k' with
   | zero => simp [set_0, set_lz, set_nz, get_leaf, get_zero, get_succ] at h; exact .inl ⟨rfl, h.symm⟩
   | succ k' => exact .inr ⟨by omega, by simpa only [set_0, set_lz, set_nz, get_leaf, get_zero, get_succ] using h⟩
  | succ k =>
   cases k' with
   | zero =>
    refine .inr ⟨by omega, ?_⟩
    simp only [set_ls, set_ns] at h
    rcases nb (k := k) with ⟨h1, _⟩ | ⟨h1, _⟩ <;> rw [h1] at h <;> simpa only [cond_true, cond_false, get_leaf, get_zero, get_succ] using h
   | succ k' =>
    simp only [set_ls, set_ns] at h
    rcases nb (k := k) with ⟨h1, e1⟩ | ⟨h1, e1⟩ <;> rw [h1] at h <;> simp only [cond_true, cond_false, get_leaf, get_zero, get_succ] at h ⊢ <;> rcases nb (k := k') with ⟨h2, e2⟩ | ⟨h2, e2⟩ <;> rw [h2] at h ⊢ <;> simp only [cond_true, cond_false] at h ⊢
    · rcases get_set f l (k / 2) x _ _ h with ⟨g1, g2⟩ | ⟨g1, g2⟩
      · exact .inl ⟨by rw [half g1 (by omega)], g2⟩
      · exact .inr ⟨fun e => g1 (by rw [Nat.succ.inj e]), g2⟩
    · exact .inr ⟨fun e => by have := Nat.succ.inj e; subst this; omega, h⟩
    · exact .inr ⟨fun e => by have := Nat.succ.inj e; subst this; omega, h⟩
    · rcases get_set f r (k / 2) x _ _ h with ⟨g1, g2⟩ | ⟨g1, g2⟩
      · exact .inl ⟨by rw [half g1 (by omega)], g2⟩
      · exact .inr ⟨fun e => g1 (by rw [Nat.succ.inj e]), g2⟩
end Trie
inductive AV where
 | dat (v : Value)
 | ptr (i o : Nat)
 | pel (i o : Nat)
 | sl (i lo n sz : Nat)
 | mp (i : Nat)
 | agg (l : List AV)
 | tup (l : List AV)
 | fn (f : Nat) (l : List AV)
 | ifc (t : Nat) (l : List AV)
inductive AO where
 | blk (T : Nat) (l : List AV)
 | row (te sz n : Nat) (l : List AV)
 | mp (kvs : List (ByteArray × Int))
 | gone
inductive Pl where
 | blk (b : Nat)
 | row (A : Option Addr) (c : Nat)
 | mp (m : Nat)
 | dead
def Rs.pl : Rs → Pl
 | .blk b _ _ => .blk b
 | .row v _ _ _ _ => match v with
  | .slice A _ c => .row A c
  | _ => .dead
 | .map m _ _ => .mp m
 | .rows _ _ _ => .dead
mutual
def RV (ps : List Pl) : AV → Value → Prop
 | .dat v, r => r = v
 | .ptr i o, r => ∃ b, ps[i]? = some (.blk b) ∧ r = .pointer (some ⟨b, o, none⟩)
 | .pel i o, r => (∃ g c, ps[i]? = some (.row (some ⟨g, 0, none⟩) c) ∧ r = .pointer (some ⟨g, o, none⟩)) ∨ (ps[i]? = some .dead ∧ ∃ x, r = .pointer (some x))
 | .sl i lo n sz, r => (∃ A c A' c', ps[i]? = some (.row A c) ∧ r = .slice A' n c' ∧ (lo = 0 → A' = A ∧ c' = c) ∧ (n = 0 ∨ ∃ g, A = some ⟨g, 0, none⟩ ∧ A' = some ⟨g, lo * sz, none⟩)) ∨ (ps[i]? = some .dead ∧ ∃ A' c', r = .slice A' n c')
 | .mp i, r => ∃ m, ps[i]? = some (.mp m) ∧ r = .map (some m)
 | .agg l, r => ∃ rs, r = .agg ⟨rs⟩ ∧ RVs ps l rs
 | .tup l, r => ∃ rs, r = .tuple ⟨rs⟩ ∧ RVs ps l rs
 | .fn f l, r => ∃ rs, r = .func (.func f) #[] ⟨rs⟩ ∧ RVs ps l rs
 | .ifc t l, r => ∃ q, r = .iface t q ∧ RVs ps l [q]
def RVs (ps : List Pl) : List AV → List Value → Prop
 | [], rs => rs = []
 | v :: l, rs => ∃ r rs', rs = r :: rs' ∧ RV ps v r ∧ RVs ps l rs'
end
def Ext (ps ps' : List Pl) : Prop := ∀ (i : Nat) (p : Pl), ps[i]? = some p → ps'[i]? = some p ∨ ((∃ A c, p = .row A c) ∧ ps'[i]? = some .dead)
theorem Ext.refl (ps : List Pl) : Ext ps ps := fun _ _ h => .inl h
theorem Ext.trans {a b c : List Pl} (h : Ext a b) (k : Ext b c) : Ext a c := fun i p hp => by
 rcases h i p hp with h1 | ⟨h1, h2⟩
 · exact k i p h1
 · rcases k i _ h2 with h3 | ⟨⟨A, c, h3⟩, _⟩
   · exact .inr ⟨h1, h3⟩
   · cases h3
mutual
theorem RV.mono {ps ps' : List Pl} (h : Ext ps ps') : ∀ (v : AV) {r : Value}, RV ps v r → RV ps' v r
 | .dat _, _, k => by simpa only [RV] using k
 | .ptr i o, r, k => by
  simp only [RV] at k ⊢
  obtain ⟨b, k1, k2⟩ := k
  rcases h _ _ k1 with h1 | ⟨⟨A, c, h1⟩, _⟩
  · exact ⟨b, h1, k2⟩
  · cases h1
 | .pel i o, r, k => by
  simp only [RV] at k ⊢
  rcases k with ⟨g, c, k1, k2⟩ | ⟨k1, k2⟩
  · rcases h _ _ k1 with h1 | ⟨_, h1⟩
    · exact .inl ⟨g, c, h1, k2⟩
    · exact .inr ⟨h1, _, k2⟩
  · rcases h _ _ k1 with h1 | ⟨⟨A, c, h1⟩, _⟩
    · exact .inr ⟨h1, k2⟩
    · cases h1
 | .sl i lo n sz, r, k => by
  simp only [RV] at k ⊢
  rcases k with ⟨A, c, A', c', k1, k2, k3⟩ | ⟨k1, k2⟩
  · rcases h _ _ k1 with h1 | ⟨_, h1⟩
    · exact .inl ⟨A, c, A', c', h1, k2, k3⟩
    · exact .inr ⟨h1, _, _, k2⟩
  · rcases h _ _ k1 with h1 | ⟨⟨A, c, h1⟩, _⟩
    · exact .inr ⟨h1, k2⟩
    · cases h1
 | .mp i, r, k => by
  simp only [RV] at k ⊢
  obtain ⟨m, k1, k2⟩ := k
  rcases h _ _ k1 with h1 | ⟨⟨A, c, h1⟩, _⟩
  · exact ⟨m, h1, k2⟩
  · cases h1
 | .agg l, r, k => by
  simp only [RV] at k ⊢
  obtain ⟨rs, k1, k2⟩ := k; exact ⟨rs, k1, RVs.mono h l k2⟩
 | .tup l, r, k => by
  simp only [RV] at k ⊢
  obtain ⟨rs, k1, k2⟩ := k; exact ⟨rs, k1, RVs.mono h l k2⟩
 | .fn f l, r, k => by
  simp only [RV] at k ⊢
  obtain ⟨rs, k1, k2⟩ := k; exact ⟨rs, k1, RVs.mono h l k2⟩
 | .ifc t l, r, k => by
  simp only [RV] at k ⊢
  obtain ⟨q, k1, k2⟩ := k; exact ⟨q, k1, RVs.mono h l k2⟩
theorem RVs.mono {ps ps' : List Pl} (h : Ext ps ps') : ∀ (l : List AV) {rs : List Value}, RVs ps l rs → RVs ps' l rs
 | [], _, k => by simpa only [RVs] using k
 | v :: l, rs, k => by
  simp only [RVs] at k ⊢
  obtain ⟨r, rs', k1, k2, k3⟩ := k
  exact ⟨r, rs', k1, RV.mono h v k2, RVs.mono h l k3⟩
end
section
variable {ps : List Pl}
theorem RVs.len : ∀ {l : List AV} {rs : List Value}, RVs ps l rs → rs.length = l.length
 | [], _, k => by simp only [RVs] at k; simp [k]
 | v :: l, rs, k => by
  simp only [RVs] at k
  obtain ⟨r, rs', k1, k2, k3⟩ := k
  subst k1; simp [k3.len]
theorem RVs.at_ : ∀ {l : List AV} {rs : List Value}, RVs ps l rs → ∀ (i : Nat) (v : AV), l[i]? = some v → ∃ r, rs[i]? = some r ∧ RV ps v r
 | [], _, _, i, v, h => by simp at h
 | u :: l, rs, k, i, v, h => by
  simp only [RVs] at k
  obtain ⟨r, rs', k1, k2, k3⟩ := k
  subst k1
  cases i with
  | zero => simp at h; subst h; exact ⟨r, rfl, k2⟩
  | succ i => simpa using k3.at_ i v (by simpa using h)
theorem RVs.app : ∀ {l m : List AV} {rs qs : List Value}, RVs ps l rs → RVs ps m qs → RVs ps (l ++ m) (rs ++ qs)
 | [], m, _, qs, k, k' => by simp only [RVs] at k; subst k; exact k'
 | v :: l, m, rs, qs, k, k' => by
  simp only [RVs] at k
  obtain ⟨r, rs', k1, k2, k3⟩ := k
  subst k1
  simp only [List.cons_append, RVs]
  exact ⟨r, _, rfl, k2, k3.app k'⟩
theorem RVs.take : ∀ {l : List AV} {rs : List Value} (n : Nat), RVs ps l rs → RVs ps (l.take n) (rs.take n)
 | [], _, n, k => by simp only [RVs] at k; subst k; simp [RVs]
 | v :: l, rs, 0, k => by simp [RVs]
 | v :: l, rs, n + 1, k => by
  simp only [RVs] at k
  obtain ⟨r, rs', k1, k2, k3⟩ := k
  subst k1
  simp only [List.take_succ_cons, RVs]
  exact ⟨r, _, rfl, k2, k3.take n⟩
theorem RVs.drop : ∀ {l : List AV} {rs : List Value} (n : Nat), RVs ps l rs → RVs ps (l.drop n) (rs.drop n)
 | [], _, n, k => by simp only [RVs] at k; subst k; simp [RVs]
 | v :: l, rs, 0, k => by simpa using k
 | v :: l, rs, n + 1, k => by
  simp only [RVs] at k
  obtain ⟨r, rs', k1, k2, k3⟩ := k
  subst k1
  simpa using k3.drop n
theorem RVs.cons {v : AV} {l : List AV} {r : Value} {rs : List Value} (h : RV ps v r) (k : RVs ps l rs) : RVs ps (v :: l) (r :: rs) := by
 simp only [RVs]; exact ⟨r, rs, rfl, h, k⟩
theorem RVs.nil : RVs ps [] [] := by simp only [RVs]
theorem RV.dat {v : Value} : RV ps (.dat v) v := by simp only [RV]
theorem RV.ofdat {v r : Value} (h : RV ps (.dat v) r) : r = v := by simpa only [RV] using h
theorem RVs.dats : ∀ (l : List Value), RVs ps (l.map .dat) l
 | [] => RVs.nil
 | v :: l => RVs.cons RV.dat (RVs.dats l)
def ofV : Value → AV
 | .agg ⟨l⟩ => .agg (l.map .dat)
 | v => .dat v
theorem RV.ofV : ∀ (v : Value), RV ps (ofV v) v := fun v => by
 unfold Go.Proofs.YtknhbphhdfknaaaGreatDoor.ofV
 split
 · simp only [RV]; exact ⟨_, rfl, RVs.dats _⟩
 · exact RV.dat
def cellsA : AV → Option (List AV)
 | .agg l => some l
 | .tup _ => none
 | .dat (.agg _) => none
 | .dat (.tuple _) => none
 | v => some [v]
def oneA : AV → Bool
 | .agg _ => false
 | .tup _ => false
 | .dat v => one1 v
 | _ => true
theorem RV.one {v : AV} {r : Value} (h : RV ps v r) (ho : oneA v = true) : one1 r = true := by
 cases v <;> simp only [RV] at h <;> simp only [oneA] at ho
 · subst h; exact ho
 · obtain ⟨b, _, rfl⟩ := h; rfl
 · rcases h with ⟨g, c, _, rfl⟩ | ⟨_, x, rfl⟩ <;> rfl
 · rcases h with ⟨A, c, A', c', _, rfl, _⟩ | ⟨_, A', c', rfl⟩ <;> rfl
 · obtain ⟨m, _, rfl⟩ := h; rfl
 · cases ho
 · cases ho
 · obtain ⟨rs, rfl, _⟩ := h; rfl
 · obtain ⟨q, rfl, _⟩ := h; rfl
theorem RVs.one : ∀ {l : List AV} {rs : List Value}, RVs ps l rs → l.all oneA = true → rs.all one1 = true
 | [], _, k, _ => by simp only [RVs] at k; subst k; rfl
 | v :: l, rs, k, h => by
  simp only [RVs] at k
  obtain ⟨r, rs', k1, k2, k3⟩ := k
  subst k1
  simp only [List.all_cons, Bool.and_eq_true] at h ⊢
  exact ⟨k2.one h.1, k3.one h.2⟩
theorem RV.cells {v : AV} {l : List AV} {r : Value} (h : RV ps v r) (hc : cellsA v = some l) : ∃ cs, vcells r = some cs ∧ RVs ps l cs := by
 unfold cellsA at hc
 split at hc
 · cases hc; simp only [RV] at h; obtain ⟨rs, rfl, k⟩ := h; exact ⟨rs, rfl, k⟩
 · cases hc
 · cases hc
 · cases hc
 · rename_i h1 h2 h3 h4
   cases hc
   refine ⟨[r], ?_, RVs.cons h RVs.nil⟩
   cases v <;> simp only [RV] at h
   · subst h
     cases r <;> first | rfl | exact (h3 _ rfl).elim
   · obtain ⟨b, _, rfl⟩ := h; rfl
   · rcases h with ⟨g, c, _, rfl⟩ | ⟨_, x, rfl⟩ <;> rfl
   · rcases h with ⟨A, c, A', c', _, rfl, _⟩ | ⟨_, A', c', rfl⟩ <;> rfl
   · obtain ⟨m, _, rfl⟩ := h; rfl
   · exact (h1 _ rfl).elim
   · exact (h2 _ rfl).elim
   · obtain ⟨rs, rfl, _⟩ := h; rfl
   · obtain ⟨q, rfl, _⟩ := h; rfl
def ldvA (agg : Bool) (cs : List AV) (o n : Nat) : Option AV :=
 bif agg then (bif Nat.ble (o + n) cs.length then some (.agg ((cs.drop o).take n)) else none) else cs[o]?
theorem seg_of {l : List Value} : ∀ {o n : Nat}, o + n ≤ l.length → seg l o n = some ((l.drop o).take n) := by
 induction l with
 | nil => intro o n h; simp at h; obtain ⟨rfl, rfl⟩ := h; rfl
 | cons v l ih =>
  intro o n h
  cases o with
  | zero =>
   cases n with
   | zero => rfl
   | succ n => simp only [seg, ih (o := 0) (n := n) (by simp at h ⊢; omega)]; simp
  | succ o => simp only [seg, ih (o := o) (n := n) (by simp at h; omega)]; simp
theorem RVs.ldv {agg : Bool} {l : List AV} {cs : List Value} {o n : Nat} {v : AV} (h : RVs ps l cs) (hv : ldvA agg l o n = some v) : ∃ r, ldv agg cs o n = some r ∧ RV ps v r := by
 unfold ldvA at hv
 cases agg with
 | false =>
  simp only [cond_false] at hv
  obtain ⟨r, h1, h2⟩ := h.at_ o v hv
  exact ⟨r, by simpa [Go.Proofs.YtknhbphhdfknaaaGreatDoor.ldv] using h1, h2⟩
 | true =>
  simp only [cond_true] at hv
  cases hb : Nat.ble (o + n) l.length with
  | false => rw [hb] at hv; cases hv
  | true =>
   rw [hb] at hv; cases hv
   have hle := Nat.le_of_ble_eq_true hb
   rw [← h.len] at hle
   refine ⟨.agg ⟨(cs.drop o).take n⟩, by simp [Go.Proofs.YtknhbphhdfknaaaGreatDoor.ldv, seg_of hle], ?_⟩
   simp only [RV]
   exact ⟨_, rfl, (h.drop o).take n⟩
def layA (l : List AV) (o : Nat) (vs : List AV) : Option (List AV) := bif Nat.ble (o + vs.length) l.length then some (l.take o ++ vs ++ l.drop (o + vs.length)) else none
theorem lay_of {l : List Value} : ∀ {o : Nat} {vs : List Value}, o + vs.length ≤ l.length → lay l o vs = some (l.take o ++ vs ++ l.drop (o + vs.length)) := by
 induction l with
 | nil => intro o vs h; simp at h; obtain ⟨rfl, rfl⟩ := h; rfl
 | cons v l ih =>
  intro o vs h
  cases o with
  | zero =>
   cases vs with
   | nil => rfl
   | cons u vs => simp only [lay, ih (o := 0) (vs := vs) (by simp only [List.length_cons] at h ⊢; omega)]; simp
  | succ o =>
   simp only [lay, ih (o := o) (vs := vs) (by simp only [List.length_cons] at h; omega)]
   rw [show o + 1 + vs.length = (o + vs.length) + 1 by omega]; simp
theorem RVs.lay {l vs l' : List AV} {cs us : List Value} {o : Nat} (h : RVs ps l cs) (k : RVs ps vs us) (hl : layA l o vs = some l') : ∃ cs', lay cs o us = some cs' ∧ RVs ps l' cs' := by
 unfold layA at hl
 cases hb : Nat.ble (o + vs.length) l.length with
 | false => rw [hb] at hl; cases hl
 | true =>
  rw [hb] at hl; cases hl
  have hle := Nat.le_of_ble_eq_true hb
  refine ⟨_, lay_of (by rw [h.len, k.len]; exact hle), ?_⟩
  rw [k.len]
  exact ((h.take o).app k).app (h.drop _)
end
def RO (ps : List Pl) : AO → Rs → Prop
 | .blk T l, .blk _ cs T' => T' = T ∧ RVs ps l cs
 | .row te sz n l, .row v te' sz' n' cs => te' = te ∧ sz' = sz ∧ n' = n ∧ (∃ A c, v = .slice A n c) ∧ RVs ps l cs
 | .mp kvs, .map _ es _ => RM (fun _ => none) false D.str (D.int .i64) kvs es.toList
 | .gone, _ => True
 | _, _ => False
theorem RO.mono {ps ps' : List Pl} (h : Ext ps ps') {o : AO} {s : Rs} (k : RO ps o s) : RO ps' o s := by
 cases o with
 | gone => simp only [RO]
 | mp kvs => cases s <;> simp only [RO] at k ⊢; exact k
 | blk T l => cases s <;> simp only [RO] at k ⊢; exact ⟨k.1, k.2.mono h⟩
 | row te sz n l => cases s <;> simp only [RO] at k ⊢; exact ⟨k.1, k.2.1, k.2.2.1, k.2.2.2.1, k.2.2.2.2.mono h⟩
structure HS (H : Trie AO) (sz : Nat) (L : List Rs) : Prop where
 len : L.length = sz
 obj : ∀ (i : Nat) (o : AO), H.get i = some o → ∃ s, L[i]? = some s ∧ RO (L.map Rs.pl) o s
def ES (E : Trie AV) (e : EL) (ps : List Pl) : Prop := ∀ (t : Nat) (v : AV), E.get t = some v → ∃ r, lk e t = some r ∧ RV ps v r
theorem ES.mono {E : Trie AV} {e : EL} {ps ps' : List Pl} (h : ES E e ps) (k : Ext ps ps') : ES E e ps' := fun t v ht => by
 obtain ⟨r, h1, h2⟩ := h t v ht; exact ⟨r, h1, h2.mono k⟩
theorem ES.put {E : Trie AV} {e : EL} {ps : List Pl} (h : ES E e ps) {f d : Nat} {v : AV} {r : Value} (k : RV ps v r) : ES (Trie.set f E d v) ((d, r) :: e) ps := fun t u ht => by
 rcases Trie.get_set _ _ _ _ _ _ ht with ⟨rfl, rfl⟩ | ⟨h1, h2⟩
 · exact ⟨r, by simp [lk], k⟩
 · obtain ⟨r', h3, h4⟩ := h t u h2
   refine ⟨r', ?_, h4⟩
   simp only [lk, nbeq_ne (Ne.symm h1), cond_false]; exact h3
end Go.Proofs.YtknhbphhdfknaaaGreatDoor
