/- Schemas, in plain words: what is weighed ends, and tells how many parts there are. No program in sight. -/
import Derived.Test.YtliaopbgkcdibaaGreatTa
import Derived.Test.YtliaopbgkcdibaaGreatCpP
set_option linter.unusedVariables false
set_option linter.unusedSimpArgs false
namespace Go.Proofs.YtliaopbgkcdibaaGreat
mutual
def nodes : TExpr → Nat
  | .mk _ _ _ _ kids _ => nodesL kids + 1
def nodesL : List TExpr → Nat
  | [] => 0
  | x :: l => nodes x + nodesL l
end
theorem nodes_eq (x : TExpr) : nodes x = nodesL x.Kids + 1 := by cases x; simp [nodes, TExpr.Kids]
theorem nodesL_sum (l : List TExpr) : nodesL l = (l.map nodes).sum := by
  induction l with
  | nil => simp [nodesL]
  | cons x l ih => simp [nodesL, ih]
theorem nodesL_mem {l : List TExpr} {x : TExpr} (h : x ∈ l) : nodes x ≤ nodesL l := by
  induction l with
  | nil => simp at h
  | cons y l ih =>
    simp only [nodesL]
    rcases List.mem_cons.1 h with rfl | h
    · omega
    · have := ih h; omega
def sumB {β R : Type} (xs : List β) (w : β → Option Int) (b : Int × Int) : Option (Step R (Int × Int)) :=
  (((bif decide (b.2 < (xs.length:Int)) then some (decide (b.1 < (1000:Int))) else some false)).bind fun d => (bif d then ((getO xs b.2).bind fun f => ((w f).bind fun g => some (.next (w64 (b.1 + g),w64 (b.2 + (1:Int)))))) else some (.brk (b.1,b.2))))
theorem sum_take {β : Type} (m : β → Nat) (xs : List β) (i : Nat) (x : β) (h : xs[i]? = some x) : ((xs.take (i + 1)).map m).sum = ((xs.take i).map m).sum + m x := by
  obtain ⟨hi, he⟩ := List.getElem?_eq_some_iff.1 h
  rw [List.take_succ_eq_append_getElem hi, he]; simp
theorem sum_tot {β R : Type} {xs : List β} {w : β → Option Int} (m : β → Nat) {s : Int} {k : Nat} (hk : 1002 ≤ k) (h0 : 0 ≤ s) (h1 : s ≤ 5000)
    (hw : ∀ x, x ∈ xs → Tot (w x) fun n => 1 ≤ n ∧ n ≤ 1000 ∧ (n < 1000 → (m x : Int) ≤ n)) :
    Tot (whileL (R := R) (sumB xs w) k (s, 0)) fun r => ∃ n i, r = .go (n, i) ∧ s ≤ n ∧ n ≤ 5000 ∧ (n < 1000 → s + (((xs.map m).sum : Nat) : Int) ≤ n) := by
  refine Tot.whileL (fun t (b : Int × Int) => s ≤ b.1 ∧ b.1 ≤ 5000 ∧ 0 ≤ b.2 ∧ b.2 ≤ xs.length ∧ b.2 ≤ b.1 ∧ (1000 - b.1).toNat ≤ t ∧ (b.1 < 1000 → s + ((((xs.take b.2.toNat).map m).sum : Nat) : Int) ≤ b.1)) 1000 (by omega) ⟨by simp, h1, by simp, by simp, by simpa using h0, by simp only []; omega, by simp⟩ ?_
  rintro t ⟨n, i⟩ ⟨g1, g2, g3, g4, g5, g6, g7⟩
  dsimp only at g1 g2 g3 g4 g5 g6 g7
  unfold sumB
  refine Tot.bind (Tot.dec (fun hi => Tot.ret ?_) (fun hi => Tot.ret ?_))
  · refine Tot.dec (fun hn => ?_) (fun hn => Tot.ret ⟨n, i, rfl, g1, g2, fun h => absurd h hn⟩)
    refine Tot.bind (Tot.getO g3 hi fun x hx => ?_)
    refine Tot.to (hw x (List.mem_of_getElem? hx)) ?_
    rintro g ⟨e1, e2, e3⟩
    dsimp only at hi hn ⊢
    rw [w64_id (by omega), w64_id (by omega)]
    refine Tot.ret ⟨t - 1, by omega, by omega, by omega, by omega, by omega, by omega, by omega, fun h => ?_⟩
    have hx' : xs[i.toNat]? = some x := hx
    have e4 := sum_take m xs _ x hx'
    have e5 := g7 hn
    have e6 := e3 (by omega)
    rw [show (i + 1).toNat = i.toNat + 1 by omega, e4]
    omega
  · refine Tot.ret ⟨n, i, rfl, g1, g2, fun h => ?_⟩
    have := g7 h
    rw [List.take_of_length_le (by omega)] at this
    exact this
def WG (m : Nat) (n : Int) : Prop := 1 ≤ n ∧ n ≤ 1000 ∧ (n < 1000 → (m : Int) ≤ n)
def WA (m : Nat) (n : Int) : Prop := 0 ≤ n ∧ n ≤ 1000 ∧ (n < 1000 → (m : Int) ≤ n)
theorem sum0 {β : Type} (xs : List β) : (xs.map fun _ => 0).sum = 0 := by induction xs <;> simp_all
theorem weigh_all : ∀ k : Nat, (∀ x (d : Int), 0 ≤ d → d ≤ 61 → 2000 + 2 * (61 - d) < (k : Int) → Tot (law07_Weigh k x d) (WG (nodes x))) ∧
    (∀ l (d : Int), 0 ≤ d → d ≤ 61 → 2001 + 2 * (61 - d) < (k : Int) → Tot (law07_weighAll k l d) (WA (nodesL l))) ∧
    (∀ q (d : Int), 0 ≤ d → d ≤ 61 → 2000 + 2 * (61 - d) < (k : Int) → Tot (law07_WeighQuery k q d) (WG 0)) ∧
    (∀ q (d : Int), 0 ≤ d → d ≤ 61 → 2000 + 2 * (61 - d) < (k : Int) → Tot (law07_weighFrom k q d) (WG 0))
  | 0 => ⟨fun _ _ _ _ h => by omega, fun _ _ _ _ h => by omega, fun _ _ _ _ h => by omega, fun _ _ _ _ h => by omega⟩
  | k + 1 => by
    obtain ⟨ih1, ih2, ih3, ih4⟩ := weigh_all k
    refine ⟨fun x d h0 h1 hk => ?_, fun l d h0 h1 hk => ?_, fun q d h0 h1 hk => ?_, fun q d h0 h1 hk => ?_⟩
    · show Tot (law07_Weigh.F k _ _ _ _ x d) _
      unfold law07_Weigh.F
      refine Tot.bind ?_
      have fin : Tot (some (1000 : Int)) (WG (nodes x)) := Tot.ret ⟨by omega, by omega, fun h => by omega⟩
      refine Tot.dec (fun h => Tot.ret fin) (fun h => Tot.dec (fun h => Tot.ret fin) (fun _ => Tot.ret (Tot.dec (fun _ => fin) (fun _ => ?_))))
      have e : w64 (d + 1) = d + 1 := w64_id (by omega)
      refine Tot.bind (Tot.mono (sum_tot (R := Int) (xs := x.Kids) (w := fun f => law07_Weigh k f (w64 (d + 1))) nodes (s := 1) (by omega) (by omega) (by omega) fun y _ => by rw [e]; exact ih1 y _ (by omega) (by omega) (by omega)) ?_)
      rintro _ ⟨n, i, rfl, a1, a2, a3⟩
      refine Tot.bind (Tot.mono (sum_tot (R := Int) (xs := x.Q) (w := fun f => law07_WeighQuery k f (w64 (d + 1))) (fun _ => 0) (s := n) (by omega) (by omega) (by omega) fun y _ => by rw [e]; exact ih3 y _ (by omega) (by omega) (by omega)) ?_)
      rintro _ ⟨n', i', rfl, b1, b2, b3⟩
      refine Tot.ret ⟨by simp only []; omega, by simp only []; omega, fun h => ?_⟩
      rw [nodes_eq, nodesL_sum]
      dsimp only at h ⊢
      have := b3 (by omega); have := a3 (by omega)
      rw [sum0] at *
      omega
    · show Tot (law07_weighAll.F k _ _ _ _ l d) _
      unfold law07_weighAll.F
      refine Tot.bind (Tot.mono (sum_tot (R := Int) (xs := l) (w := fun f => law07_Weigh k f d) nodes (s := 0) (by omega) (by omega) (by omega) fun y _ => ih1 y _ (by omega) (by omega) (by omega)) ?_)
      rintro _ ⟨n, i, rfl, a1, a2, a3⟩
      refine Tot.ret ⟨by simp only []; omega, by simp only []; omega, fun h => ?_⟩
      rw [nodesL_sum]
      dsimp only at h ⊢
      have := a3 (by omega)
      omega
    · show Tot (law07_WeighQuery.F k _ _ _ _ q d) _
      unfold law07_WeighQuery.F
      have fin : Tot (some (1000 : Int)) (WG 0) := Tot.ret ⟨by omega, by omega, fun h => by omega⟩
      refine Tot.dec (fun _ => fin) (fun _ => ?_)
      have e : w64 (d + 1) = d + 1 := w64_id (by omega)
      refine Tot.to (by rw [e]; exact ih2 q.Where _ (by omega) (by omega) (by omega)) ?_
      rintro n1 ⟨a1, a2, _⟩
      refine Tot.to (by rw [e]; exact ih2 q.Group _ (by omega) (by omega) (by omega)) ?_
      rintro n2 ⟨b1, b2, _⟩
      refine Tot.to (by rw [e]; exact ih2 q.Having _ (by omega) (by omega) (by omega)) ?_
      rintro n3 ⟨c1, c2, _⟩
      rw [w64_id (x := 1 + n1) (by omega), w64_id (x := 1 + n1 + n2) (by omega), w64_id (x := 1 + n1 + n2 + n3) (by omega)]
      have hitems : Tot (whileL (law07_WeighQuery.b3 k (law07_weighAll k) (law07_Weigh k) (law07_WeighQuery k) (law07_weighFrom k) q d) k (1 + n1 + n2 + n3, (0 : Int))) fun r => (∃ n i, r = .go (n, i) ∧ 1 ≤ n ∧ n ≤ 5000) ∨ r = .ret 1000 := by
        refine Tot.whileL (fun t (b : Int × Int) => 1 ≤ b.1 ∧ b.1 ≤ 5000 ∧ 0 ≤ b.2 ∧ b.2 ≤ q.Items.length ∧ b.2 ≤ b.1 ∧ (1000 - b.1).toNat ≤ t) 1000 (by omega) ⟨by simp only []; omega, by simp only []; omega, by simp, by simp, by simp only []; omega, by simp only []; omega⟩ ?_
        rintro t ⟨n, i⟩ ⟨g1, g2, g3, g4, g5, g6⟩
        dsimp only at g1 g2 g3 g4 g5 g6
        unfold law07_WeighQuery.b3
        refine Tot.bind (Tot.dec (fun hi => Tot.ret ?_) (fun hi => Tot.ret ?_))
        · refine Tot.dec (fun hn => ?_) (fun hn => Tot.ret (.inl ⟨n, i, rfl, g1, g2⟩))
          refine Tot.bind (Tot.getO g3 hi fun x hx => ?_)
          refine Tot.to (by rw [e]; exact ih1 x.E _ (by omega) (by omega) (by omega)) ?_
          rintro g ⟨e1, e2, _⟩
          dsimp only at hi hn ⊢
          rw [w64_id (x := n + g) (by omega), w64_id (x := i + 1) (by omega)]
          exact Tot.dec (fun _ => Tot.ret (.inr rfl)) (fun _ => Tot.ret ⟨t - 1, by omega, by omega, by omega, by omega, by omega, by omega, by omega⟩)
        · exact Tot.ret (.inl ⟨n, i, rfl, g1, g2⟩)
      refine Tot.bind (hitems.mono ?_)
      rintro _ (⟨n4, i4, rfl, d1, d2⟩ | rfl)
      · refine Tot.bind (Tot.mono (sum_tot (R := Int) (xs := q.Order) (w := fun f => law07_Weigh k f.E (w64 (d + 1))) (fun _ => 0) (s := n4) (by omega) (by omega) (by omega) fun y _ => by rw [e]; exact (ih1 y.E _ (by omega) (by omega) (by omega)).mono fun n h => ⟨h.1, h.2.1, fun _ => by have := h.1; omega⟩) ?_)
        rintro _ ⟨n5, i5, rfl, e1, e2, _⟩
        refine Tot.bind (Tot.mono (sum_tot (R := Int) (xs := q.From) (w := fun f => law07_weighFrom k f (w64 (d + 1))) (fun _ => 0) (s := n5) (by omega) (by omega) (by omega) fun y _ => by rw [e]; exact ih4 y _ (by omega) (by omega) (by omega)) ?_)
        rintro _ ⟨n6, i6, rfl, f1, f2, _⟩
        refine Tot.bind (Tot.mono (sum_tot (R := Int) (xs := q.Kids) (w := fun f => law07_WeighQuery k f (w64 (d + 1))) (fun _ => 0) (s := n6) (by omega) (by omega) (by omega) fun y _ => by rw [e]; exact ih3 y _ (by omega) (by omega) (by omega)) ?_)
        rintro _ ⟨n7, i7, rfl, g1, g2, _⟩
        exact Tot.ret ⟨by simp only []; omega, by simp only []; omega, fun h => by simp only []; omega⟩
      · exact fin
    · show Tot (law07_weighFrom.F k _ _ _ _ q d) _
      unfold law07_weighFrom.F
      refine Tot.bind ?_
      have fin : Tot (some (1000 : Int)) (WG 0) := Tot.ret ⟨by omega, by omega, fun h => by omega⟩
      refine Tot.dec (fun h => Tot.ret fin) (fun h => Tot.dec (fun h => Tot.ret fin) (fun _ => Tot.ret (Tot.dec (fun _ => fin) (fun _ => ?_))))
      have e : w64 (d + 1) = d + 1 := w64_id (by omega)
      refine Tot.to (by rw [e]; exact ih2 q.On _ (by omega) (by omega) (by omega)) ?_
      rintro n1 ⟨a1, a2, _⟩
      rw [w64_id (x := 1 + n1) (by omega)]
      refine Tot.bind (Tot.mono (sum_tot (R := Int) (xs := q.Q) (w := fun f => law07_WeighQuery k f (w64 (d + 1))) (fun _ => 0) (s := 1 + n1) (by omega) (by omega) (by omega) fun y _ => by rw [e]; exact ih3 y _ (by omega) (by omega) (by omega)) ?_)
      rintro _ ⟨n6, i6, rfl, f1, f2, _⟩
      refine Tot.bind (Tot.mono (sum_tot (R := Int) (xs := q.Kids) (w := fun f => law07_weighFrom k f (w64 (d + 1))) (fun _ => 0) (s := n6) (by omega) (by omega) (by omega) fun y _ => by rw [e]; exact ih4 y _ (by omega) (by omega) (by omega)) ?_)
      rintro _ ⟨n7, i7, rfl, g1, g2, _⟩
      exact Tot.ret ⟨by simp only []; omega, by simp only []; omega, fun h => by simp only []; omega⟩
end Go.Proofs.YtliaopbgkcdibaaGreat
