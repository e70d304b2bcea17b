/- Schemas, in plain words: a schema is weighed; what is light has few parts. No program in sight. -/
import Derived.Test.YtliaopbgkcdibaaGreatPa
set_option linter.unusedVariables false
set_option linter.unusedSimpArgs false
namespace Go.Proofs.YtliaopbgkcdibaaGreat
theorem names_tot (k : Nat) (hk : 1002 ≤ k) (l : List ByteArray) : Tot (law07_weighNames k l) fun n => 0 ≤ n ∧ n ≤ 1000 ∧ (n < 1000 → (l.length : Int) = n) ∧ (0 < l.length → 1 ≤ n) := by
  unfold law07_weighNames
  refine Tot.bind (Tot.whileL (fun t (b : Int × Int) => b.1 = b.2 ∧ 0 ≤ b.2 ∧ b.1 ≤ 1000 ∧ b.2 ≤ l.length ∧ (1000 - b.1).toNat ≤ t) 1000 (by omega) ⟨rfl, by simp, by simp, by simp, by simp⟩ ?_)
  rintro t ⟨n, i⟩ ⟨g1, g2, g3, g4, g5⟩
  dsimp only at g1 g2 g3 g4 g5
  unfold law07_weighNames.b0
  refine Tot.bind (Tot.dec (fun hi => Tot.ret ?_) (fun hi => Tot.ret ?_))
  · refine Tot.dec (fun hn => ?_) (fun hn => Tot.ret (Tot.ret ⟨by omega, by omega, fun h => absurd h hn, fun _ => by omega⟩))
    refine Tot.bind (Tot.getO g2 hi fun x hx => ?_)
    dsimp only at hi hn ⊢
    rw [w64_id (x := n + 1) (by omega), w64_id (x := i + 1) (by omega)]
    exact Tot.dec (fun _ => Tot.ret (Tot.ret ⟨by omega, by omega, fun h => by omega, fun _ => by omega⟩)) (fun _ => Tot.ret ⟨t - 1, by omega, by omega, by omega, by omega, by omega, by omega⟩)
  · refine Tot.ret (Tot.ret ⟨by omega, by omega, fun h => by omega, fun h => by omega⟩)
theorem pairs_tot (k : Nat) (hk : 1002 ≤ k) (l : List TPair) : Tot (law07_weighPairs k l) fun n => 0 ≤ n ∧ n ≤ 1000 := by
  unfold law07_weighPairs
  refine Tot.bind (Tot.mono (sum_tot (R := Int) (xs := l) (w := fun d => law07_weighNames k [d.Low, d.High]) (fun _ => 0) (s := 0) (by omega) (by omega) (by omega) fun y _ => (names_tot k hk _).mono fun n h => ⟨h.2.2.2 (by simp), h.2.1, fun _ => by have := h.1; omega⟩) ?_)
  rintro _ ⟨n, i, rfl, a1, a2, a3⟩
  exact Tot.ret ⟨by simp only []; omega, by simp only []; omega⟩
def lightT (t : TTable) : Prop := t.Key.length ≤ 1000 ∧ nodesL t.When ≤ 1000
theorem wschema_tot (k : Nat) (hk : 3000 ≤ k) (s : TSchema) : Tot (law07_WeighSchema k s) fun n => n < 1000 → ∀ t, t ∈ s.Tables → lightT t := by
  unfold law07_WeighSchema
  refine Tot.to (names_tot k (by omega) _) ?_
  rintro n1 ⟨a1, a2, _⟩
  refine Tot.to (pairs_tot k (by omega) _) ?_
  rintro n2 ⟨b1, b2⟩
  refine Tot.to (pairs_tot k (by omega) _) ?_
  rintro n3 ⟨c1, c2⟩
  refine Tot.to (pairs_tot k (by omega) _) ?_
  rintro n4 ⟨d1, d2⟩
  rw [w64_id (x := n1 + n2) (by omega), w64_id (x := n1 + n2 + n3) (by omega), w64_id (x := n1 + n2 + n3 + n4) (by omega)]
  refine Tot.bind (Tot.whileL (fun t (b : Int × Int) => 0 ≤ b.2 ∧ b.2 ≤ b.1 ∧ b.1 ≤ 5000 ∧ b.2 ≤ s.Tables.length ∧ (1000 - b.1).toNat ≤ t ∧ (b.1 < 1000 → ∀ (j : Nat) t, (j : Int) < b.2 → s.Tables[j]? = some t → lightT t)) 1000 (by omega) ⟨by simp, by simp only []; omega, by simp only []; omega, by simp, by simp only []; omega, fun _ j t h => by simp only [] at h; omega⟩ ?_)
  rintro t ⟨n, i⟩ ⟨g1, g2, g3, g4, g5, g6⟩
  dsimp only at g1 g2 g3 g4 g5 g6
  unfold law07_WeighSchema.b0
  refine Tot.bind (Tot.dec (fun hi => Tot.ret ?_) (fun hi => Tot.ret ?_))
  · refine Tot.dec (fun hn => ?_) (fun hn => Tot.ret (Tot.ret fun h => by simp only [] at h; omega))
    refine Tot.bind (Tot.getO g1 hi fun x hx => ?_)
    refine Tot.to (names_tot k (by omega) _) ?_
    rintro m1 ⟨e1, e2, _⟩
    refine Tot.to (names_tot k (by omega) _) ?_
    rintro m2 ⟨f1, f2, f3, _⟩
    refine Tot.to ((weigh_all k).2.1 x.When 0 (by omega) (by omega) (by omega)) ?_
    rintro m3 ⟨h1, h2, h3⟩
    dsimp only at hi hn ⊢
    rw [w64_id (x := n + 1) (by omega), w64_id (x := n + 1 + m1) (by omega), w64_id (x := n + 1 + m1 + m2) (by omega), w64_id (x := n + 1 + m1 + m2 + m3) (by omega)]
    refine Tot.bind (Tot.mono (sum_tot (R := Int) (xs := x.Cols) (w := fun c => law07_weighNames k [c.Name, c.Level]) (fun _ => 0) (s := n + 1 + m1 + m2 + m3) (by omega) (by omega) (by omega) fun y _ => (names_tot k (by omega) _).mono fun n h => ⟨h.2.2.2 (by simp), h.2.1, fun _ => by have := h.1; omega⟩) ?_)
    rintro _ ⟨n', i', rfl, p1, p2, p3⟩
    rw [Lr.k, w64_id (x := i + 1) (by omega)]
    refine Tot.ret ⟨t - 1, by omega, by omega, by simp only []; omega, p2, by simp only []; omega, by simp only []; omega, fun hh j t' hj ht => ?_⟩
    dsimp only at hh hj
    by_cases hji : (j : Int) < i
    · exact g6 hn j t' hji ht
    · have : j = i.toNat := by omega
      subst this
      have hx' : s.Tables[i.toNat]? = some x := hx
      rw [hx'] at ht
      cases ht
      have := f3 (by omega); have := h3 (by omega)
      exact ⟨by omega, by omega⟩
  · refine Tot.ret (Tot.ret fun h => ?_)
    intro t' ht
    obtain ⟨j, hj⟩ := List.mem_iff_getElem?.1 ht
    have hlt : j < s.Tables.length := (List.getElem?_eq_some_iff.1 hj).1
    simp only [] at h hi
    exact g6 (by omega) j t' (by omega) hj
theorem few08_tot (k : Nat) (hk : 3000 ≤ k) (s : TSchema) : Tot (law08_Few k s) fun b => b = true → ∀ t, t ∈ s.Tables → lightT t := by
  unfold law08_Few
  refine Tot.bind (Tot.to (wschema_tot k hk s) ?_)
  intro n hn
  refine Tot.dec (fun h => Tot.ret (Tot.ret fun _ => hn (by omega))) (fun h => Tot.ret (Tot.ret (by simp)))
end Go.Proofs.YtliaopbgkcdibaaGreat
