/- AlgebraTotal's plain law: what is put together of nodes that can raise nothing can raise nothing, and uses what they use. No program in sight. -/
import Derived.Test.YtlokemkpgnngjaaGreatDoorAw
import Derived.Test.YtlokemkpgnngjaaGreatDoorTa
import Derived.Test.YtlokemkpgnngjaaGreatDoorQa
set_option linter.unusedVariables false
set_option linter.unusedSimpArgs false
set_option maxRecDepth 100000
namespace Go.Proofs.YtlokemkpgnngjaaGreatDoor
section
variable {α R : Type} {body : Int × Int → Option (Step R (Int × Int))} {xs : List α} {g : α → Int → Option Int}
theorem cnt_sum (h : Cnt body xs g) (m : α → Nat) (hm : ∀ x n n', 0 ≤ n → n < 1000 → g x n = some n' → n' < 1000 → n + m x ≤ n') : ∀ (K i : Nat) (n n' i' : Int), (i : Int) ≤ n → whileL body K (n, (i : Int)) = some (.go (n', i')) → n' < 1000 → n + (((xs.drop i).map m).sum : Nat) ≤ n'
  | 0, _, _, _, _, _, hw, _ => by simp [whileL] at hw
  | K + 1, i, n, n', i', hi, hw, hlt => by
    by_cases hn : 1000 ≤ n
    · rw [whileL, h.full n i hn] at hw
      cases hw; omega
    · cases hx : xs[i]? with
      | none =>
        rw [whileL, h.done n i hx] at hw
        cases hw
        have hlen : xs.length ≤ i := by simpa using hx
        rw [List.drop_eq_nil_of_le hlen]; simp
      | some x =>
        rw [whileL, h.step n i x hi (by omega) hx] at hw
        cases hg : g x n with
        | none => rw [hg] at hw; cases hw
        | some n1 =>
          rw [hg] at hw
          have hgr := h.grow x n n1 (by omega) (by omega) hg
          have hw' : whileL body K (n1, ((i + 1 : Nat) : Int)) = some (.go (n', i')) := hw
          have ih := cnt_sum h m hm K (i + 1) n1 n' i' (by omega) hw' hlt
          have h1 : n1 < 1000 := by omega
          have h2 := hm x n n1 (by omega) (by omega) hg h1
          obtain ⟨hj, he⟩ := List.getElem?_eq_some_iff.1 hx
          rw [List.drop_eq_getElem_cons hj, he, List.map_cons, List.sum_cons]
          omega
end
mutual
def nsz : TNode → Nat
  | .mk _ _ _ K _ => nszL K + 1
def nszL : List TNode → Nat
  | [] => 0
  | x :: l => nsz x + nszL l
end
theorem nszL_sum : ∀ l : List TNode, nszL l = (l.map nsz).sum
  | [] => rfl
  | x :: l => by simp [nszL, nszL_sum l]
theorem nsz_eq (n : TNode) : nsz n = nszL n.Kids + 1 := by cases n; rfl
theorem nszL_mem {x : TNode} : ∀ {l : List TNode}, x ∈ l → nsz x ≤ nszL l
  | [], h => by cases h
  | y :: l, h => by
    rcases List.mem_cons.1 h with rfl | h
    · simp only [nszL]; omega
    · have := nszL_mem h; simp only [nszL]; omega
theorem nsz_le : ∀ (k : Nat) (l : List TNode) (d v : Int), law10_weighNodes k l d = some v → v < 1000 → (nszL l : Int) ≤ v
  | 0, _, _, _, h, _ => by cases h
  | k + 1, l, d, v, h, hv => by
    have hs := sized k
    change law10_weighNodes.F k (law10_weighNodes k) (law10_WeighPlan k) l d = some v at h
    unfold law10_weighNodes.F at h
    cases hd : decide ((60 : Int) < d) with
    | true => rw [hd] at h; cases h; omega
    | false =>
      rw [hd] at h
      simp only [cond_false] at h
      obtain ⟨o, ho, h⟩ := Option.bind_eq_some_iff.1 h
      obtain ⟨n1, i1, rfl, h1, a1⟩ := (cnt_nodes k hs l d).some k 0 _ o (by omega) ho
      have hv2 : min n1 1000 = v := by cases h; rfl
      have := cnt_sum (cnt_nodes k hs l d) nsz (fun x n n' h0 h1 hg hn' => by
        unfold oneNode at hg
        simp only [Option.bind_eq_some_iff] at hg
        obtain ⟨y, hy, o, hw, hg⟩ := hg
        have hy' := hs.2 _ _ _ hy
        obtain ⟨n2, i2, rfl, h2, a2⟩ := (cnt_plans k hs x d).some k 0 _ o (by omega) hw
        simp only [Option.some.injEq] at hg
        have := nsz_le k _ _ _ hy (by omega)
        rw [nsz_eq]; omega) k 0 0 n1 i1 (by omega) ho (by omega)
      rw [List.drop_zero, ← nszL_sum] at this
      omega
/-! ### What a node says of itself -/
theorem always_tot (k : Nat) (s : ByteArray) : Tot (algebra_always k s) fun _ => True := by
  unfold algebra_always
  refine Tot.any (Tot.dec (fun _ => Tot.ret trivial) fun _ => Tot.dec (fun _ => Tot.ret trivial) fun _ => Tot.dec (fun _ => Tot.ret trivial) fun _ => Tot.ret trivial) fun b => Tot.cond (fun _ => Tot.ret trivial) fun _ => ?_
  exact Tot.any (Tot.dec (fun _ => Tot.ret trivial) fun _ => Tot.dec (fun _ => Tot.ret trivial) fun _ => Tot.dec (fun _ => Tot.ret trivial) fun _ => Tot.ret trivial) fun b => Tot.cond (fun _ => Tot.ret trivial) fun _ => Tot.ret trivial
theorem total1_tot (k : Nat) (n : TNode) : Tot (algebra_Total_1 k n) fun _ => True := by
  unfold algebra_Total_1
  refine Tot.any (Tot.dec (fun _ => Tot.ret trivial) fun _ => Tot.dec (fun _ => Tot.ret trivial) fun _ => Tot.dec (fun _ => Tot.ret trivial) fun _ => Tot.dec (fun _ => Tot.ret trivial) fun _ => Tot.dec (fun _ => Tot.ret trivial) fun _ => Tot.ret trivial) fun b => Tot.cond (fun _ => Tot.ret trivial) fun _ => ?_
  refine Tot.any (Tot.dec (fun _ => Tot.ret trivial) fun _ => Tot.dec (fun _ => Tot.ret trivial) fun _ => Tot.ret trivial) fun b => Tot.cond (fun _ => Tot.ret trivial) fun _ => ?_
  exact Tot.dec (fun _ => Tot.to (always_tot k _) fun _ _ => Tot.ret trivial) fun _ => Tot.ret trivial
def own1 (n : TNode) : Bool := (algebra_Total_1 0 n).getD false
theorem total1_eq (k : Nat) (n : TNode) : algebra_Total_1 k n = some (own1 n) := by
  obtain ⟨b, hb, _⟩ := total1_tot 0 n
  have : algebra_Total_1 k n = algebra_Total_1 0 n := rfl
  rw [this]; unfold own1; rw [hb]; rfl
mutual
def wk : TNode → Bool
  | .mk a b c K P => own1 (.mk a b c K P) && wkL K
def wkL : List TNode → Bool
  | [] => true
  | x :: l => wk x && wkL l
end
mutual
def us : TNode → List Int
  | .mk a b _ K _ => (if a = 5 then [b] else []) ++ usL K
def usL : List TNode → List Int
  | [] => []
  | x :: l => us x ++ usL l
end
theorem wk_eq (n : TNode) : wk n = (own1 n && wkL n.Kids) := by cases n; rfl
theorem us_eq (n : TNode) : us n = (if n.Kind = 5 then [n.N] else []) ++ usL n.Kids := by cases n; rfl
mutual
theorem us_len : ∀ n : TNode, (us n).length ≤ nsz n
  | .mk a b c K P => by
    have := usL_len K
    simp only [us, nsz, List.length_append]
    split <;> simp <;> omega
theorem usL_len : ∀ l : List TNode, (usL l).length ≤ nszL l
  | [] => by simp [usL, nszL]
  | x :: l => by
    have := us_len x
    have := usL_len l
    simp only [usL, nszL, List.length_append]; omega
end
def DeepN (j : Nat) (n : TNode) : Prop := (∀ k, algebra_walk j n (fun d => algebra_Total_1 k d) = some (wk n)) ∧ ∀ acc : List Int, acc.length + nsz n ≤ 4294967296 → algebra_walk_algebra_Uses_1 j n acc = some (true, acc ++ us n)
theorem walk_loop (j k : Nat) : ∀ (l : List TNode) (i : Nat), (∀ x, x ∈ l → DeepN j x) → forL (algebra_walk.b0 j (algebra_walk j) (fun d => algebra_Total_1 k d)) i l () = some (if wkL l = true then .go () else .ret false)
  | [], i, h => rfl
  | x :: l, i, h => by
    have hx := (h x List.mem_cons_self).1 k
    rw [forL]
    unfold algebra_walk.b0
    rw [hx]
    cases hw : wk x with
    | false => simp [wkL, hw]
    | true =>
      have := walk_loop j k l (i + 1) (fun y hy => h y (List.mem_cons_of_mem _ hy))
      unfold algebra_walk.b0 at this
      simp only [Option.bind_some, cond_false, Bool.not_true, wkL, hw, Bool.true_and]
      exact this
theorem uses_loop (j : Nat) : ∀ (l : List TNode) (i : Nat) (acc : List Int), (∀ x, x ∈ l → DeepN j x) → acc.length + nszL l ≤ 4294967296 → forL (algebra_walk_algebra_Uses_1.b0 j (algebra_walk_algebra_Uses_1 j)) i l acc = some (.go (acc ++ usL l))
  | [], i, acc, h, hl => by simp [forL, usL]
  | x :: l, i, acc, h, hl => by
    simp only [nszL] at hl
    have hx := (h x List.mem_cons_self).2 acc (by omega)
    rw [forL]
    unfold algebra_walk_algebra_Uses_1.b0
    rw [hx]
    have hu := us_len x
    have := uses_loop j l (i + 1) (acc ++ us x) (fun y hy => h y (List.mem_cons_of_mem _ hy)) (by simp only [List.length_append]; omega)
    unfold algebra_walk_algebra_Uses_1.b0 at this
    simp only [Option.bind_some, Bool.not_true, cond_false, usL, ← List.append_assoc]
    exact this
theorem DeepN.step {j : Nat} {n : TNode} (h : ∀ x, x ∈ n.Kids → DeepN j x) : DeepN (j + 1) n := by
  constructor
  · intro k
    show algebra_walk.F j (algebra_walk j) n _ = _
    unfold algebra_walk.F
    show ((algebra_Total_1 k n).bind _) = _
    rw [total1_eq, Option.bind_some, wk_eq]
    cases own1 n with
    | false => rfl
    | true =>
      rw [walk_loop j k _ 0 h]
      cases wkL n.Kids <;> rfl
  · intro acc hl
    rw [nsz_eq] at hl
    show algebra_walk_algebra_Uses_1.F j (algebra_walk_algebra_Uses_1 j) n acc = _
    unfold algebra_walk_algebra_Uses_1.F algebra_Uses_1
    rw [us_eq]
    by_cases h5 : n.Kind = 5
    · rw [decide_eq_true h5, if_pos h5, show lim (acc.length + [n.N].length) = some () from by unfold lim; rw [if_pos (by simp; omega)]]
      simp only [cond_true, Option.bind_some, Bool.not_true, cond_false]
      rw [uses_loop j _ 0 _ h (by simp; omega)]
      simp [Lr.k]
    · rw [decide_eq_false h5, if_neg h5]
      simp only [cond_false, Option.bind_some, Bool.not_true]
      rw [uses_loop j _ 0 _ h (by omega)]
      simp [Lr.k]
theorem DeepN.of : ∀ (j : Nat) (n : TNode), nsz n ≤ j → DeepN j n
  | 0, n, h => by rw [nsz_eq] at h; omega
  | j + 1, n, h => DeepN.step fun x hx => DeepN.of j x (by have := nszL_mem hx; rw [nsz_eq] at h; omega)
theorem total_eq (k : Nat) {n : TNode} (h : nsz n ≤ k) : algebra_Total k n = some (wk n) := by
  unfold algebra_Total
  rw [(DeepN.of k n h).1 k]; rfl
def uz (n : TNode) : List Int := Lib.compact ((us n).mergeSort fun x y => decide (x ≤ y))
theorem uses_eq (k : Nat) {n : TNode} (h : nsz n ≤ k) (hk : k ≤ 4294967296) : algebra_Uses k n = some (uz n) := by
  have hu := us_len n
  unfold algebra_Uses
  rw [(DeepN.of k n h).2 [] (by simp; omega)]
  unfold slices_Sort_int_int slices_Compact_int_int
  simp only [Option.bind_some, List.nil_append]
  rw [show lim (us n).length = some () from by unfold lim; rw [if_pos (by omega)]]
  rfl
theorem mem_uz {n : TNode} {x : Int} : x ∈ uz n ↔ x ∈ us n := mem_uses _ _
theorem in_eq (k : Nat) (x : Int) (l : List Int) : law10_in k x l = some (decide (x ∈ l)) := by
  unfold law10_in
  have : ∀ (l : List Int) (i : Nat), forL (law10_in.b0 k x) i l () = some (if x ∈ l then .ret true else .go ()) := by
    intro l
    induction l with
    | nil => intro i; rfl
    | cons y l ih =>
      intro i
      rw [forL]
      unfold law10_in.b0
      by_cases h : y = x
      · rw [decide_eq_true h]; subst h; simp
      · have := ih (i + 1)
        unfold law10_in.b0 at this
        rw [decide_eq_false h]
        simp only [cond_false, Option.bind_some]
        rw [this]
        have h' : ¬ x = y := fun e => h e.symm
        simp [h']
  rw [this]
  by_cases h : x ∈ l
  · rw [if_pos h, decide_eq_true h]; rfl
  · rw [if_neg h, decide_eq_false h]; rfl
/-! ### Sorted and compacted: none twice -/
theorem upTo_inc (d : Array Int) (hs : ∀ i j, i ≤ j → j < d.size → d[i]! ≤ d[j]!) : ∀ m, m ≤ d.size → (Lib.compactUpTo d m).Pairwise (· < ·) ∧ ∀ x, x ∈ Lib.compactUpTo d m → m ≠ 0 ∧ x ≤ d[m - 1]!
  | 0, _ => by simp [Lib.compactUpTo]
  | m + 1, hm => by
    obtain ⟨h1, h2⟩ := upTo_inc d hs m (by omega)
    rw [Lib.compactUpTo_succ]
    have hle : ∀ x, x ∈ Lib.compactUpTo d m → x ≤ d[m]! := fun x hx => by
      obtain ⟨h3, h4⟩ := h2 x hx
      exact Int.le_trans h4 (hs _ _ (by omega) (by omega))
    by_cases hk : Lib.keeps d m = true
    · simp only [hk, if_true]
      refine ⟨List.pairwise_append.2 ⟨h1, by simp, fun x hx y hy => ?_⟩, fun x hx => ⟨by omega, ?_⟩⟩
      · rw [List.mem_singleton.1 hy]
        obtain ⟨h3, h4⟩ := h2 x hx
        have h5 : d[m]! ≠ d[m - 1]! := by
          have : m = 0 ∨ d[m]! ≠ d[m - 1]! := by simpa [Lib.keeps] using hk
          rcases this with h | h
          · exact absurd h h3
          · exact h
        have h6 := hs (m - 1) m (by omega) (by omega)
        omega
      · rcases List.mem_append.1 hx with hx | hx
        · simpa using hle x hx
        · rw [List.mem_singleton.1 hx]; simp
    · simp only [hk]
      refine ⟨by simpa using h1, fun x hx => ⟨by omega, ?_⟩⟩
      simpa using hle x (by simpa using hx)
theorem compact_inc (l : List Int) (hs : l.Pairwise (· ≤ ·)) : (Lib.compact l).Pairwise (· < ·) := by
  unfold Lib.compact
  refine (upTo_inc l.toArray (fun i j hij hj => ?_) _ (by simp)).1
  have hj' : j < l.length := by simpa using hj
  rcases Nat.eq_or_lt_of_le hij with rfl | hlt
  · exact Int.le_refl _
  · have := (List.pairwise_iff_getElem.1 hs) i j (by omega) hj' hlt
    simpa [getElem!_pos, hj', show i < l.length by omega] using this
theorem uz_inc (n : TNode) : (uz n).Pairwise (· < ·) := by
  refine compact_inc _ ?_
  have := List.pairwise_mergeSort (le := fun x y : Int => decide (x ≤ y)) (by simp; omega) (by simp; omega) (us n)
  simpa using this
theorem len_sub : ∀ (l m : List Int), l.Pairwise (· < ·) → (∀ x, x ∈ l → x ∈ m) → l.length ≤ m.length
  | [], m, _, _ => by simp
  | x :: l, m, h, hs => by
    have hx := hs x List.mem_cons_self
    rw [List.pairwise_cons] at h
    have := len_sub l (m.erase x) h.2 (fun y hy => by
      have := h.1 y hy
      exact (List.mem_erase_of_ne (by omega)).2 (hs y (List.mem_cons_of_mem _ hy)))
    rw [List.length_erase_of_mem hx] at this
    have h1 : 0 < m.length := List.length_pos_of_mem hx
    simp only [List.length_cons]; omega
end Go.Proofs.YtlokemkpgnngjaaGreatDoor
