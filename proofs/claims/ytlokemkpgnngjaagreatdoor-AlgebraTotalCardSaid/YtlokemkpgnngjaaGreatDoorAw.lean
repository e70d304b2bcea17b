/- How many parts a plan has: what the guard's count says of a plan that it lets in; it always ends. No program in sight. -/
import Derived.Test.YtlokemkpgnngjaaGreatDoorCpM
import Derived.Test.YtlokemkpgnngjaaGreatDoorLa
set_option linter.unusedVariables false
set_option linter.unusedSimpArgs false
namespace Go.Proofs.YtlokemkpgnngjaaGreatDoor
section
variable {α R : Type} {body : Int × Int → Option (Step R (Int × Int))} {xs : List α} {g : α → Int → Option Int}
/-- a loop that counts over a list, as long as it counted less than 1000 -/
structure Cnt (body : Int × Int → Option (Step R (Int × Int))) (xs : List α) (g : α → Int → Option Int) : Prop where
  step : ∀ (n : Int) (i : Nat) (x : α), (i : Int) ≤ n → n < 1000 → xs[i]? = some x → body (n, (i : Int)) = (g x n).bind fun n' => some (.next (n', ((i + 1 : Nat) : Int)))
  full : ∀ (n : Int) (i : Nat), 1000 ≤ n → body (n, (i : Int)) = some (.brk (n, (i : Int)))
  done : ∀ (n : Int) (i : Nat), xs[i]? = none → body (n, (i : Int)) = some (.brk (n, (i : Int)))
  grow : ∀ (x : α) (n n' : Int), 0 ≤ n → n < 1000 → g x n = some n' → n + 1 ≤ n'
theorem Cnt.some (h : Cnt body xs g) : ∀ (K i : Nat) (n : Int) (o : Lr R (Int × Int)), (i : Int) ≤ n → whileL body K (n, (i : Int)) = some o →
    ∃ n' i', o = .go (n', i') ∧ n ≤ n' ∧ (n' < 1000 → (xs.length : Int) - i ≤ n' - n ∧ xs.length < i + K ∧ ∀ j x, i ≤ j → xs[j]? = Option.some x → ∃ m m', g x m = Option.some m' ∧ 0 ≤ m ∧ m < 1000 ∧ m' ≤ n')
  | 0, _, _, _, _, hw => by simp [whileL] at hw
  | K + 1, i, n, o, hi, hw => by
    by_cases hn : 1000 ≤ n
    · rw [whileL, h.full n i hn] at hw
      cases hw
      exact ⟨n, i, rfl, Int.le_refl _, fun h => by omega⟩
    · cases hx : xs[i]? with
      | none =>
        rw [whileL, h.done n i hx] at hw
        cases hw
        have hlen : xs.length ≤ i := by simpa using hx
        refine ⟨n, i, rfl, Int.le_refl _, fun _ => ⟨by omega, by omega, fun j x hj hjx => ?_⟩⟩
        have := (List.getElem?_eq_some_iff.1 hjx).1
        omega
      | some x =>
        rw [whileL, h.step n i x hi (by omega) hx] at hw
        cases hg : g x n with
        | none => rw [hg] at hw; cases hw
        | some n1 =>
          rw [hg] at hw
          have hgr := h.grow x n n1 (by omega) (by omega) hg
          obtain ⟨n', i', h1, h2, h3⟩ := h.some K (i + 1) n1 o (by omega) hw
          refine ⟨n', i', h1, by omega, fun hlt => ?_⟩
          obtain ⟨a1, a2, a3⟩ := h3 hlt
          refine ⟨by omega, by omega, fun j y hj hy => ?_⟩
          rcases Nat.eq_or_lt_of_le hj with rfl | hj
          · rw [hx] at hy; cases hy
            exact ⟨n, n1, hg, by omega, by omega, by omega⟩
          · exact a3 j y hj hy
theorem Cnt.total (h : Cnt body xs g) (ht : ∀ (x : α) (n : Int), 0 ≤ n → n < 1000 → ∃ n', g x n = Option.some n') : ∀ (K i : Nat) (n : Int), (i : Int) ≤ n → 1001 ≤ (K : Int) + min n 1000 → ∃ o, whileL body K (n, (i : Int)) = Option.some o
  | 0, _, _, _, hk => by omega
  | K + 1, i, n, hi, hk => by
    by_cases hn : 1000 ≤ n
    · exact ⟨_, by rw [whileL, h.full n i hn]; rfl⟩
    · cases hx : xs[i]? with
      | none => exact ⟨_, by rw [whileL, h.done n i hx]; rfl⟩
      | some x =>
        obtain ⟨n1, hg⟩ := ht x n (by omega) (by omega)
        have hgr := h.grow x n n1 (by omega) (by omega) hg
        obtain ⟨o, ho⟩ := h.total ht K (i + 1) n1 (by omega) (by omega)
        exact ⟨o, by rw [whileL, h.step n i x hi (by omega) hx, hg]; exact ho⟩
end
theorem dec_lt {α : Type} {xs : List α} {i : Nat} {x : α} (h : xs[i]? = some x) : decide ((i : Int) < (xs.length : Int)) = true := decide_eq_true (by have := (List.getElem?_eq_some_iff.1 h).1; omega)
theorem dec_ge {α : Type} {xs : List α} {i : Nat} (h : xs[i]? = none) : decide ((i : Int) < (xs.length : Int)) = false := by
  have : xs.length ≤ i := by simpa using h
  exact decide_eq_false (by omega)
def Sized (sP : TPlan → Int → Option Int) (sN : List TNode → Int → Option Int) : Prop := (∀ p d v, sP p d = some v → 1 ≤ v ∧ v ≤ 1000) ∧ (∀ l d v, sN l d = some v → 0 ≤ v ∧ v ≤ 1000)
section
variable {sP : TPlan → Int → Option Int} {sN : List TNode → Int → Option Int} (k : Nat)
theorem cnt_kids (hs : Sized sP sN) (p : TPlan) (d : Int) : Cnt (law10_WeighPlan.b0 k sN sP p d) p.Kids (fun q n => (sP q (w64 (d + 1))).bind fun y => some (n + y)) where
  step n i x hi hn hx := by
    unfold law10_WeighPlan.b0
    simp only [dec_lt hx, cond_true, Option.bind_some, decide_eq_true hn, getO_nat, hx]
    cases h : sP x (w64 (d + 1)) with
    | none => rfl
    | some y =>
      have := hs.1 _ _ _ h
      simp only [Option.bind_some]
      rw [w64_id (by omega), w64_id (by omega)]; rfl
  full n i hn := by
    unfold law10_WeighPlan.b0
    cases h : decide ((i : Int) < (p.Kids.length : Int)) <;> simp only [h, cond_true, cond_false, Option.bind_some, decide_eq_false (show ¬ n < 1000 by omega)]
  done n i hx := by
    unfold law10_WeighPlan.b0
    simp only [dec_ge hx, cond_false, Option.bind_some]
  grow x n n' h0 h1 hg := by
    simp only [Option.bind_eq_some_iff] at hg
    obtain ⟨y, hy, hg⟩ := hg
    have := hs.1 _ _ _ hy
    simp only [Option.some.injEq] at hg
    omega
theorem cnt_plans (hs : Sized sP sN) (x : TNode) (d : Int) : Cnt (law10_weighNodes.b1 k sN sP x d) x.Plans (fun q n => (sP q (w64 (d + 1))).bind fun y => some (n + y)) where
  step n i x hi hn hx := by
    unfold law10_weighNodes.b1
    simp only [dec_lt hx, cond_true, Option.bind_some, decide_eq_true hn, getO_nat, hx]
    cases h : sP x (w64 (d + 1)) with
    | none => rfl
    | some y =>
      have := hs.1 _ _ _ h
      simp only [Option.bind_some]
      rw [w64_id (by omega), w64_id (by omega)]; rfl
  full n i hn := by
    unfold law10_weighNodes.b1
    cases h : decide ((i : Int) < (x.Plans.length : Int)) <;> simp only [h, cond_true, cond_false, Option.bind_some, decide_eq_false (show ¬ n < 1000 by omega)]
  done n i hx := by
    unfold law10_weighNodes.b1
    simp only [dec_ge hx, cond_false, Option.bind_some]
  grow x n n' h0 h1 hg := by
    simp only [Option.bind_eq_some_iff] at hg
    obtain ⟨y, hy, hg⟩ := hg
    have := hs.1 _ _ _ hy
    simp only [Option.some.injEq] at hg
    omega
theorem cnt_aggs (hs : Sized sP sN) (p : TPlan) (d : Int) : Cnt (law10_WeighPlan.b1 k sN sP p d) p.Aggs (fun g n => (sN g.E (w64 (d + 1))).bind fun y => some (n + 1 + y)) where
  step n i x hi hn hx := by
    unfold law10_WeighPlan.b1
    simp only [dec_lt hx, cond_true, Option.bind_some, decide_eq_true hn, getO_nat, hx]
    cases h : sN x.E (w64 (d + 1)) with
    | none => rfl
    | some y =>
      have := hs.2 _ _ _ h
      simp only [Option.bind_some]
      rw [w64_id (x := n + 1) (by omega), w64_id (by omega), w64_id (by omega)]; rfl
  full n i hn := by
    unfold law10_WeighPlan.b1
    cases h : decide ((i : Int) < (p.Aggs.length : Int)) <;> simp only [h, cond_true, cond_false, Option.bind_some, decide_eq_false (show ¬ n < 1000 by omega)]
  done n i hx := by
    unfold law10_WeighPlan.b1
    simp only [dec_ge hx, cond_false, Option.bind_some]
  grow x n n' h0 h1 hg := by
    simp only [Option.bind_eq_some_iff] at hg
    obtain ⟨y, hy, hg⟩ := hg
    have := hs.2 _ _ _ hy
    simp only [Option.some.injEq] at hg
    omega
/-- what is counted of one node -/
def oneNode (k : Nat) (sP : TPlan → Int → Option Int) (sN : List TNode → Int → Option Int) (d : Int) (x : TNode) (n : Int) : Option Int :=
  (sN x.Kids (w64 (d + 1))).bind fun y => (whileL (law10_weighNodes.b1 k sN sP x d) k (n + 1 + y, (0 : Int))).bind fun o => match o with
    | .go s => some s.1
    | .ret _ => none
theorem cnt_nodes (hs : Sized sP sN) (l : List TNode) (d : Int) : Cnt (law10_weighNodes.b0 k sN sP l d) l (oneNode k sP sN d) where
  step n i x hi hn hx := by
    unfold law10_weighNodes.b0 oneNode
    simp only [dec_lt hx, cond_true, Option.bind_some, decide_eq_true hn, getO_nat, hx]
    cases h : sN x.Kids (w64 (d + 1)) with
    | none => rfl
    | some y =>
      have := hs.2 _ _ _ h
      simp only [Option.bind_some]
      rw [w64_id (x := n + 1) (by omega), w64_id (x := n + 1 + y) (by omega), w64_id (x := (i : Int) + 1) (by omega)]
      cases hw : whileL (law10_weighNodes.b1 k sN sP x d) k (n + 1 + y, (0 : Int)) with
      | none => rfl
      | some o =>
        obtain ⟨n', i', rfl, _⟩ := (cnt_plans k hs x d).some k 0 _ o (by omega) hw
        rfl
  full n i hn := by
    unfold law10_weighNodes.b0
    cases h : decide ((i : Int) < (l.length : Int)) <;> simp only [h, cond_true, cond_false, Option.bind_some, decide_eq_false (show ¬ n < 1000 by omega)]
  done n i hx := by
    unfold law10_weighNodes.b0
    simp only [dec_ge hx, cond_false, Option.bind_some]
  grow x n n' h0 h1 hg := by
    unfold oneNode at hg
    simp only [Option.bind_eq_some_iff] at hg
    obtain ⟨y, hy, o, hw, hg⟩ := hg
    have := hs.2 _ _ _ hy
    obtain ⟨n'', i', rfl, h2, _⟩ := (cnt_plans k hs x d).some k 0 _ o (by omega) hw
    simp only [Option.some.injEq] at hg
    omega
end
theorem sized : ∀ k, Sized (law10_WeighPlan k) (law10_weighNodes k)
  | 0 => ⟨(fun p d v h => by cases h), (fun l d v h => by cases h)⟩
  | k + 1 => by
    have hs := sized k
    constructor
    · intro p d v h
      change law10_WeighPlan.F k (law10_weighNodes k) (law10_WeighPlan k) p d = some v at h
      unfold law10_WeighPlan.F at h
      obtain ⟨m, _, h⟩ := Option.bind_eq_some_iff.1 h
      cases m with
      | true => cases h; omega
      | false =>
        simp only [cond_false] at h
        obtain ⟨y, hy, h⟩ := Option.bind_eq_some_iff.1 h
        have hy' := hs.2 _ _ _ hy
        rw [w64_id (by omega)] at h
        obtain ⟨o, ho, h⟩ := Option.bind_eq_some_iff.1 h
        obtain ⟨n1, i1, rfl, h1, _⟩ := (cnt_aggs k hs p d).some k 0 _ o (by omega) ho
        obtain ⟨o, ho, h⟩ := Option.bind_eq_some_iff.1 h
        obtain ⟨n2, i2, rfl, h2, _⟩ := (cnt_kids k hs p d).some k 0 _ o (by show ((0 : Nat) : Int) ≤ n1; omega) ho
        cases h
        omega
    · intro l d v h
      change law10_weighNodes.F k (law10_weighNodes k) (law10_WeighPlan k) l d = some v at h
      unfold law10_weighNodes.F at h
      cases hd : decide ((60 : Int) < d) with
      | true => rw [hd] at h; cases h; omega
      | false =>
        rw [hd] at h
        simp only [cond_false] at h
        obtain ⟨o, ho, h⟩ := Option.bind_eq_some_iff.1 h
        obtain ⟨n1, i1, rfl, h1, _⟩ := (cnt_nodes k hs l d).some k 0 _ o (by omega) ho
        cases h
        omega
theorem plan_info {k : Nat} {p : TPlan} {d v : Int} (h : law10_WeighPlan (k + 1) p d = some v) (hv : v ≤ 300) :
    p.Aggs.length ≤ 300 ∧ (∃ d' v, law10_weighNodes k p.E d' = some v ∧ v ≤ 300) ∧ (∀ g, g ∈ p.Aggs → ∃ d' v, law10_weighNodes k g.E d' = some v ∧ v ≤ 300) ∧ (∀ q, q ∈ p.Kids → ∃ d' v, law10_WeighPlan k q d' = some v ∧ v ≤ 300) := by
  have hs := sized k
  change law10_WeighPlan.F k (law10_weighNodes k) (law10_WeighPlan k) p d = some v at h
  unfold law10_WeighPlan.F at h
  obtain ⟨m, _, h⟩ := Option.bind_eq_some_iff.1 h
  cases m with
  | true => cases h; omega
  | false =>
    simp only [cond_false] at h
    obtain ⟨y, hy, h⟩ := Option.bind_eq_some_iff.1 h
    have hy' := hs.2 _ _ _ hy
    rw [w64_id (by omega)] at h
    obtain ⟨o, ho, h⟩ := Option.bind_eq_some_iff.1 h
    obtain ⟨n1, i1, rfl, h1, a1⟩ := (cnt_aggs k hs p d).some k 0 _ o (by omega) ho
    obtain ⟨o, ho, h⟩ := Option.bind_eq_some_iff.1 h
    obtain ⟨n2, i2, rfl, h2, a2⟩ := (cnt_kids k hs p d).some k 0 _ o (by show ((0 : Nat) : Int) ≤ n1; omega) ho
    have hv2 : min n2 1000 = v := by cases h; rfl
    simp only at h1 a1 h2 a2
    obtain ⟨b1, b2, b3⟩ := a1 (by omega)
    obtain ⟨c1, c2, c3⟩ := a2 (by omega)
    refine ⟨by omega, ⟨_, y, hy, by omega⟩, fun g hg => ?_, fun q hq => ?_⟩
    · obtain ⟨j, hj⟩ := List.mem_iff_getElem?.1 hg
      obtain ⟨m, m', e1, e2, e3, e4⟩ := b3 j g (Nat.zero_le _) hj
      simp only [Option.bind_eq_some_iff] at e1
      obtain ⟨z, hz, e1⟩ := e1
      simp only [Option.some.injEq] at e1
      exact ⟨_, z, hz, by omega⟩
    · obtain ⟨j, hj⟩ := List.mem_iff_getElem?.1 hq
      obtain ⟨m, m', e1, e2, e3, e4⟩ := c3 j q (Nat.zero_le _) hj
      simp only [Option.bind_eq_some_iff] at e1
      obtain ⟨z, hz, e1⟩ := e1
      simp only [Option.some.injEq] at e1
      exact ⟨_, z, hz, by omega⟩
theorem nodes_info {k : Nat} {l : List TNode} {d v : Int} (h : law10_weighNodes (k + 1) l d = some v) (hv : v ≤ 300) :
    l.length ≤ 300 ∧ ∀ n, n ∈ l → (∃ d' v, law10_weighNodes k n.Kids d' = some v ∧ v ≤ 300) ∧ n.Plans.length < k ∧ n.Plans.length ≤ 300 ∧ ∀ q, q ∈ n.Plans → ∃ d' v, law10_WeighPlan k q d' = some v ∧ v ≤ 300 := by
  have hs := sized k
  change law10_weighNodes.F k (law10_weighNodes k) (law10_WeighPlan k) l d = some v at h
  unfold law10_weighNodes.F at h
  cases hd : decide ((60 : Int) < d) with
  | true => rw [hd] at h; cases h; omega
  | false =>
    rw [hd] at h
    simp only [cond_false] at h
    obtain ⟨o, ho, h⟩ := Option.bind_eq_some_iff.1 h
    obtain ⟨n1, i1, rfl, h1, a1⟩ := (cnt_nodes k hs l d).some k 0 _ o (by omega) ho
    have hv2 : min n1 1000 = v := by cases h; rfl
    obtain ⟨b1, b2, b3⟩ := a1 (by omega)
    refine ⟨by omega, fun n hn => ?_⟩
    obtain ⟨j, hj⟩ := List.mem_iff_getElem?.1 hn
    obtain ⟨m, m', e1, e2, e3, e4⟩ := b3 j n (Nat.zero_le _) hj
    unfold oneNode at e1
    simp only [Option.bind_eq_some_iff] at e1
    obtain ⟨y, hy, o, hw, e1⟩ := e1
    have hy' := hs.2 _ _ _ hy
    obtain ⟨n2, i2, rfl, h2, a2⟩ := (cnt_plans k hs n d).some k 0 _ o (by omega) hw
    simp only [Option.some.injEq] at e1
    obtain ⟨c1, c2, c3⟩ := a2 (by omega)
    refine ⟨⟨_, y, hy, by omega⟩, by omega, by omega, fun q hq => ?_⟩
    obtain ⟨j, hj⟩ := List.mem_iff_getElem?.1 hq
    obtain ⟨m, m', e1, e2, e3, e4⟩ := c3 j q (Nat.zero_le _) hj
    simp only [Option.bind_eq_some_iff] at e1
    obtain ⟨z, hz, e1⟩ := e1
    simp only [Option.some.injEq] at e1
    exact ⟨_, z, hz, by omega⟩
theorem count_ends : ∀ (j : Nat) (d : Int), 0 ≤ d → 61 - d ≤ j → (∀ p, ∃ v, law10_WeighPlan (1002 + j) p d = some v) ∧ (∀ l, ∃ v, law10_weighNodes (1002 + j) l d = some v)
  | 0, d, h0, hd => by
    constructor
    · intro p
      refine ⟨1000, ?_⟩
      show law10_WeighPlan.F 1001 (law10_weighNodes 1001) (law10_WeighPlan 1001) p d = _
      unfold law10_WeighPlan.F
      simp only [decide_eq_true (show (60 : Int) < d by omega), cond_true, Option.bind_some]
    · intro l
      refine ⟨1000, ?_⟩
      show law10_weighNodes.F 1001 (law10_weighNodes 1001) (law10_WeighPlan 1001) l d = _
      unfold law10_weighNodes.F
      simp only [decide_eq_true (show (60 : Int) < d by omega), cond_true]
  | j + 1, d, h0, hd => by
    by_cases hdd : (60 : Int) < d
    · constructor
      · intro p
        refine ⟨1000, ?_⟩
        show law10_WeighPlan.F (1002 + j) (law10_weighNodes (1002 + j)) (law10_WeighPlan (1002 + j)) p d = _
        unfold law10_WeighPlan.F
        simp only [decide_eq_true hdd, cond_true, Option.bind_some]
      · intro l
        refine ⟨1000, ?_⟩
        show law10_weighNodes.F (1002 + j) (law10_weighNodes (1002 + j)) (law10_WeighPlan (1002 + j)) l d = _
        unfold law10_weighNodes.F
        simp only [decide_eq_true hdd, cond_true]
    · have hw : w64 (d + 1) = d + 1 := w64_id (by omega)
      obtain ⟨ihP, ihN⟩ := count_ends j (d + 1) (by omega) (by omega)
      have hs := sized (1002 + j)
      constructor
      · intro p
        show ∃ v, law10_WeighPlan.F (1002 + j) (law10_weighNodes (1002 + j)) (law10_WeighPlan (1002 + j)) p d = some v
        unfold law10_WeighPlan.F
        simp only [decide_eq_false hdd, cond_false]
        by_cases hk : (60 : Int) < (p.Keys.length : Int)
        · exact ⟨1000, by simp only [decide_eq_true hk, cond_true, Option.bind_some]⟩
        · by_cases hD : (60 : Int) < (p.Desc.length : Int)
          · exact ⟨1000, by simp only [decide_eq_false hk, decide_eq_true hD, cond_true, cond_false, Option.bind_some]⟩
          · simp only [decide_eq_false hk, decide_eq_false hD, cond_false, Option.bind_some]
            obtain ⟨y, hy⟩ := ihN p.E
            have hy' := hs.2 _ _ _ hy
            rw [hw, hy]
            simp only [Option.bind_some]
            rw [w64_id (x := 1 + y) (by omega)]
            obtain ⟨o, ho⟩ := (cnt_aggs (1002 + j) hs p d).total (fun g n _ _ => by
              obtain ⟨z, hz⟩ := ihN g.E
              exact ⟨n + 1 + z, by rw [hw, hz]; rfl⟩) (1002 + j) 0 (1 + y) (by omega) (by omega)
            obtain ⟨n1, i1, rfl, h1, _⟩ := (cnt_aggs (1002 + j) hs p d).some _ 0 _ o (by omega) ho
            rw [show (0 : Int) = ((0 : Nat) : Int) from rfl, ho]
            simp only [Option.bind_some, Lr.k]
            obtain ⟨o, ho⟩ := (cnt_kids (1002 + j) hs p d).total (fun q n _ _ => by
              obtain ⟨z, hz⟩ := ihP q
              exact ⟨n + z, by rw [hw, hz]; rfl⟩) (1002 + j) 0 n1 (by omega) (by omega)
            obtain ⟨n2, i2, rfl, h2, _⟩ := (cnt_kids (1002 + j) hs p d).some _ 0 _ o (by omega) ho
            rw [ho]
            exact ⟨_, rfl⟩
      · intro l
        show ∃ v, law10_weighNodes.F (1002 + j) (law10_weighNodes (1002 + j)) (law10_WeighPlan (1002 + j)) l d = some v
        unfold law10_weighNodes.F
        simp only [decide_eq_false hdd, cond_false]
        obtain ⟨o, ho⟩ := (cnt_nodes (1002 + j) hs l d).total (fun x n hn0 hn1 => by
          obtain ⟨z, hz⟩ := ihN x.Kids
          have hz' := hs.2 _ _ _ hz
          obtain ⟨o, ho⟩ := (cnt_plans (1002 + j) hs x d).total (fun q n _ _ => by
            obtain ⟨u, hu⟩ := ihP q
            exact ⟨n + u, by rw [hw, hu]; rfl⟩) (1002 + j) 0 (n + 1 + z) (by omega) (by omega)
          obtain ⟨n2, i2, rfl, h2, _⟩ := (cnt_plans (1002 + j) hs x d).some _ 0 _ o (by omega) ho
          refine ⟨n2, ?_⟩
          unfold oneNode
          rw [hw, hz]
          simp only [Option.bind_some]
          rw [show (0 : Int) = ((0 : Nat) : Int) from rfl, ho]; rfl) (1002 + j) 0 0 (by omega) (by omega)
        obtain ⟨n1, i1, rfl, h1, _⟩ := (cnt_nodes (1002 + j) hs l d).some _ 0 _ o (by omega) ho
        rw [show ((0 : Int), (0 : Int)) = ((0 : Int), ((0 : Nat) : Int)) from rfl, ho]
        exact ⟨_, rfl⟩
end Go.Proofs.YtlokemkpgnngjaaGreatDoor
