/- The plain laws, and the statement out of its row. -/
import Derived.Test.YtknhbphhdfknaaaGreatDoorCxF
import Derived.Test.YtknhbphhdfknaaaGreatDoorCpT
import Derived.Test.YtknhbphhdfknaaaGreatDoorCrAuditTells
import Derived.Test.YtknhbphhdfknaaaGreatDoorCards
import Derived.Test.YtknhbphhdfknaaaGreatDoorTie
import Derived.SevenTiedAt
set_option linter.unusedVariables false
set_option linter.unusedSimpArgs false
namespace Go.Proofs.YtknhbphhdfknaaaGreatDoor
def Tot {α : Type} (x : Option α) (P : α → Prop) : Prop := ∃ a, x = some a ∧ P a
section
variable {α β R S : Type} {x y : Option α} {f : α → Option β} {P P' : α → Prop} {Q : β → Prop} {b : Bool} {a : α} {p : Prop} [Decidable p]
theorem Tot.ret (h : P a) : Tot (some a) P := ⟨a, rfl, h⟩
theorem Tot.of (h : x = some a) (k : P a) : Tot x P := ⟨a, h, k⟩
theorem Tot.bind (h : Tot x fun a => Tot (f a) Q) : Tot (x.bind f) Q := by
 obtain ⟨a, rfl, h⟩ := h; exact h
theorem Tot.mono (h : Tot x P) (k : ∀ a, P a → P' a) : Tot x P' := by
 obtain ⟨a, h1, h2⟩ := h; exact ⟨a, h1, k a h2⟩
theorem Tot.to (h : Tot x P) (k : ∀ a, P a → Tot (f a) Q) : Tot (x.bind f) Q := Tot.bind (h.mono k)
theorem Tot.any {f : Bool → Option β} {x : Option Bool} (h : Tot x fun _ => True) (k : ∀ b, Tot (f b) Q) : Tot (x.bind f) Q := Tot.to h fun b _ => k b
theorem Tot.one {x : Option α} (h : x = some a) (k : Tot (f a) Q) : Tot (x.bind f) Q := by rw [h]; exact k
theorem Tot.cond (h1 : b = true → Tot x P) (h2 : b = false → Tot y P) : Tot (bif b then x else y) P := by
 cases b
 · exact h2 rfl
 · exact h1 rfl
theorem Tot.dec (h1 : p → Tot x P) (h2 : ¬ p → Tot y P) : Tot (bif decide p then x else y) P := by
 by_cases h : p
 · rw [decide_eq_true h]; exact h1 h
 · rw [decide_eq_false h]; exact h2 h
theorem Tot.ndec (h1 : ¬ p → Tot x P) (h2 : p → Tot y P) : Tot (bif !decide p then x else y) P := by
 by_cases h : p
 · rw [decide_eq_true h]; exact h2 h
 · rw [decide_eq_false h]; exact h1 h
theorem Tot.not (h1 : b = false → Tot x P) (h2 : b = true → Tot y P) : Tot (bif !b then x else y) P := by
 cases b
 · exact h1 rfl
 · exact h2 rfl
theorem Tot.getO {xs : List α} {i : Int} (h0 : 0 ≤ i) (h1 : i < xs.length) (k : ∀ a, xs[i.toNat]? = some a → P a) : Tot (getO xs i) P := by
 have h : i.toNat < xs.length := by omega
 refine ⟨xs[i.toNat], ?_, k _ (List.getElem?_eq_getElem h)⟩
 unfold Go.Proofs.YtknhbphhdfknaaaGreatDoor.getO
 rw [if_pos h0, List.getElem?_eq_getElem h]
theorem Tot.lim {n : Nat} {P : Unit → Prop} (h : n ≤ 4294967296) (k : P ()) : Tot (lim n) P := ⟨(), by unfold Go.Proofs.YtknhbphhdfknaaaGreatDoor.lim; rw [if_pos h], k⟩
theorem Tot.optE {γ : Type} {o : Option γ} {z : Option α} {f : γ → Option α} {c : γ} (h : o = some c) (k : Tot (f c) P) : Tot (optE o z f) P := by
 subst h; exact k
theorem Tot.forL {γ : Type} {body : Nat → γ → S → Option (Step R S)} {xs : List γ} {i : Nat} {s : S} {Q : Lr R S → Prop} (I : Nat → S → Prop) (h0 : I 0 s)
 (step : ∀ j c s, xs[j]? = some c → I j s → Tot (body (i + j) c s) fun r => match r with
  | .next s => I (j + 1) s
  | .brk s => Q (.go s)
  | .ret r => Q (.ret r)) (h1 : ∀ s, I xs.length s → Q (.go s)) : Tot (forL body i xs s) Q := by
 induction xs generalizing i s I with
 | nil => exact ⟨_, rfl, h1 _ h0⟩
 | cons c xs ih =>
  obtain ⟨r, hr, hq⟩ := step 0 c s (by simp) h0
  unfold Go.Proofs.YtknhbphhdfknaaaGreatDoor.forL
  rw [Nat.add_zero] at hr
  rw [hr]
  cases r with
  | next s' =>
   refine ih (fun j => I (j + 1)) hq (fun j c s hc hi => ?_) (fun s hs => h1 s (by simpa using hs))
   have := step (j + 1) c s (by simpa using hc) hi
   rwa [show i + 1 + j = i + (j + 1) by omega]
  | brk s' => exact ⟨_, rfl, hq⟩
  | ret r => exact ⟨_, rfl, hq⟩
theorem Tot.whileL {body : S → Option (Step R S)} {k : Nat} {s : S} {Q : Lr R S → Prop} (I : Nat → S → Prop) (n : Nat) (hn : n < k) (h0 : I n s)
 (step : ∀ n s, I n s → Tot (body s) fun r => match r with
  | .next s => ∃ m, m < n ∧ I m s
  | .brk s => Q (.go s)
  | .ret r => Q (.ret r)) : Tot (whileL body k s) Q := by
 induction k generalizing n s with
 | zero => omega
 | succ k ih =>
  obtain ⟨r, hr, hq⟩ := step n s h0
  unfold Go.Proofs.YtknhbphhdfknaaaGreatDoor.whileL
  rw [hr]
  cases r with
  | next s' =>
   obtain ⟨m, hm, hi⟩ := hq
   exact ih m (by omega) hi
  | brk s' => exact ⟨_, rfl, hq⟩
  | ret r => exact ⟨_, rfl, hq⟩
end
end Go.Proofs.YtknhbphhdfknaaaGreatDoor
set_option linter.unusedVariables false
set_option linter.unusedSimpArgs false
namespace Go.Proofs.YtknhbphhdfknaaaGreatDoor
mutual
def nodes : TExpr → Nat
 | .mk _ _ _ _ kids _ => nodesL kids + 1
def nodesL : List TExpr → Nat
 | [] => 0
 | x :: l => nodes x + nodesL l
end
theorem nodes_eq (x : TExpr) : nodes x = nodesL x.Kids + 1 := by cases x; simp [nodes, TExpr.Kids]
theorem nodesL_sum (l : List TExpr) : nodesL l = (l.map nodes).sum := by
 induction l with
 | nil => simp [nodesL]
 | cons x l ih => simp [nodesL, ih]
def sumB {β R : Type} (xs : List β) (w : β → Option Int) (b : Int × Int) : Option (Step R (Int × Int)) :=
 (((bif decide (b.2 < (xs.length:Int)) then some (decide (b.1 < (1000:Int))) else some false)).bind fun d => (bif d then ((getO xs b.2).bind fun f => ((w f).bind fun g => some (.next (w64 (b.1 + g),w64 (b.2 + (1:Int)))))) else some (.brk (b.1,b.2))))
theorem sum_take {β : Type} (m : β → Nat) (xs : List β) (i : Nat) (x : β) (h : xs[i]? = some x) : ((xs.take (i + 1)).map m).sum = ((xs.take i).map m).sum + m x := by
 obtain ⟨hi, he⟩ := List.getElem?_eq_some_iff.1 h
 rw [List.take_succ_eq_append_getElem hi, he]; simp
theorem sum_tot {β R : Type} {xs : List β} {w : β → Option Int} (m : β → Nat) {s : Int} {k : Nat} (hk : 1002 ≤ k) (h0 : 0 ≤ s) (h1 : s ≤ 5000)
 (hw : ∀ x, x ∈ xs → Tot (w x) fun n => 1 ≤ n ∧ n ≤ 1000 ∧ (n < 1000 → (m x : Int) ≤ n)) :
 Tot (whileL (R := R) (sumB xs w) k (s, 0)) fun r => ∃ n i, r = .go (n, i) ∧ s ≤ n ∧ n ≤ 5000 ∧ (n < 1000 → s + (((xs.map m).sum : Nat) : Int) ≤ n) := by
 refine Tot.whileL (fun t (b : Int × Int) => s ≤ b.1 ∧ b.1 ≤ 5000 ∧ 0 ≤ b.2 ∧ b.2 ≤ xs.length ∧ b.2 ≤ b.1 ∧ (1000 - b.1).toNat ≤ t ∧ (b.1 < 1000 → s + ((((xs.take b.2.toNat).map m).sum : Nat) : Int) ≤ b.1)) 1000 (by omega) ⟨by simp, h1, by simp, by simp, by simpa using h0, by simp only []; omega, by simp⟩ ?_
 rintro t ⟨n, i⟩ ⟨g1, g2, g3, g4, g5, g6, g7⟩
 dsimp only at g1 g2 g3 g4 g5 g6 g7
 unfold sumB
 refine Tot.bind (Tot.dec (fun hi => Tot.ret ?_) (fun hi => Tot.ret ?_))
 · refine Tot.dec (fun hn => ?_) (fun hn => Tot.ret ⟨n, i, rfl, g1, g2, fun h => absurd h hn⟩)
   refine Tot.bind (Tot.getO g3 hi fun x hx => ?_)
   refine Tot.to (hw x (List.mem_of_getElem? hx)) ?_
   rintro g ⟨e1, e2, e3⟩
   dsimp only at hi hn ⊢
   rw [w64_id (by omega), w64_id (by omega)]
   refine Tot.ret ⟨t - 1, by omega, by omega, by omega, by omega, by omega, by omega, by omega, fun h => ?_⟩
   have hx' : xs[i.toNat]? = some x := hx
   have e4 := sum_take m xs _ x hx'
   have e5 := g7 hn
   have e6 := e3 (by omega)
   rw [show (i + 1).toNat = i.toNat + 1 by omega, e4]
   omega
 · refine Tot.ret ⟨n, i, rfl, g1, g2, fun h => ?_⟩
   have := g7 h
   rw [List.take_of_length_le (by omega)] at this
   exact this
def WG (m : Nat) (n : Int) : Prop := 1 ≤ n ∧ n ≤ 1000 ∧ (n < 1000 → (m : Int) ≤ n)
def WA (m : Nat) (n : Int) : Prop := 0 ≤ n ∧ n ≤ 1000 ∧ (n < 1000 → (m : Int) ≤ n)
theorem sum0 {β : Type} (xs : List β) : (xs.map fun _ => 0).sum = 0 := by induction xs <;> simp_all
theorem weigh_all : ∀ k : Nat, (∀ x (d : Int), 0 ≤ d → d ≤ 61 → 2000 + 2 * (61 - d) < (k : Int) → Tot (law07_Weigh k x d) (WG (nodes x))) ∧
 (∀ l (d : Int), 0 ≤ d → d ≤ 61 → 2001 + 2 * (61 - d) < (k : Int) → Tot (law07_weighAll k l d) (WA (nodesL l))) ∧
 (∀ q (d : Int), 0 ≤ d → d ≤ 61 → 2000 + 2 * (61 - d) < (k : Int) → Tot (law07_WeighQuery k q d) (WG 0)) ∧
 (∀ q (d : Int), 0 ≤ d → d ≤ 61 → 2000 + 2 * (61 - d) < (k : Int) → Tot (law07_weighFrom k q d) (WG 0))
 | 0 => ⟨fun _ _ _ _ h => by omega, fun _ _ _ _ h => by omega, fun _ _ _ _ h => by omega, fun _ _ _ _ h => by omega⟩
 | k + 1 => by
  obtain ⟨ih1, ih2, ih3, ih4⟩ := weigh_all k
  refine ⟨fun x d h0 h1 hk => ?_, fun l d h0 h1 hk => ?_, fun q d h0 h1 hk => ?_, fun q d h0 h1 hk => ?_⟩
  · show Tot (law07_Weigh.F k _ _ _ _ x d) _
    unfold law07_Weigh.F
    refine Tot.bind ?_
    have fin : Tot (some (1000 : Int)) (WG (nodes x)) := Tot.ret ⟨by omega, by omega, fun h => by omega⟩
    refine Tot.dec (fun h => Tot.ret fin) (fun h => Tot.dec (fun h => Tot.ret fin) (fun _ => Tot.ret (Tot.dec (fun _ => fin) (fun _ => ?_))))
    have e : w64 (d + 1) = d + 1 := w64_id (by omega)
    refine Tot.bind (Tot.mono (sum_tot (R := Int) (xs := x.Kids) (w := fun f => law07_Weigh k f (w64 (d + 1))) nodes (s := 1) (by omega) (by omega) (by omega) fun y _ => by rw [e]; exact ih1 y _ (by omega) (by omega) (by omega)) ?_)
    rintro _ ⟨n, i, rfl, a1, a2, a3⟩
    refine Tot.bind (Tot.mono (sum_tot (R := Int) (xs := x.Q) (w := fun f => law07_WeighQuery k f (w64 (d + 1))) (fun _ => 0) (s := n) (by omega) (by omega) (by omega) fun y _ => by rw [e]; exact ih3 y _ (by omega) (by omega) (by omega)) ?_)
    rintro _ ⟨n', i', rfl, b1, b2, b3⟩
    refine Tot.ret ⟨by simp only []; omega, by simp only []; omega, fun h => ?_⟩
    rw [nodes_eq, nodesL_sum]
    dsimp only at h ⊢
    have := b3 (by omega); have := a3 (by omega)
    rw [sum0] at *
    omega
  · show Tot (law07_weighAll.F k _ _ _ _ l d) _
    unfold law07_weighAll.F
    refine Tot.bind (Tot.mono (sum_tot (R := Int) (xs := l) (w := fun f => law07_Weigh k f d) nodes (s := 0) (by omega) (by omega) (by omega) fun y _ => ih1 y _ (by omega) (by omega) (by omega)) ?_)
    rintro _ ⟨n, i, rfl, a1, a2, a3⟩
    refine Tot.ret ⟨by simp only []; omega, by simp only []; omega, fun h => ?_⟩
    rw [nodesL_sum]
    dsimp only at h ⊢
    have := a3 (by omega)
    omega
  · show Tot (law07_WeighQuery.F k _ _ _ _ q d) _
    unfold law07_WeighQuery.F
    have fin : Tot (some (1000 : Int)) (WG 0) := Tot.ret ⟨by omega, by omega, fun h => by omega⟩
    refine Tot.dec (fun _ => fin) (fun _ => ?_)
    have e : w64 (d + 1) = d + 1 := w64_id (by omega)
    refine Tot.to (by rw [e]; exact ih2 q.Where _ (by omega) (by omega) (by omega)) ?_
    rintro n1 ⟨a1, a2, _⟩
    refine Tot.to (by rw [e]; exact ih2 q.Group _ (by omega) (by omega) (by omega)) ?_
    rintro n2 ⟨b1, b2, _⟩
    refine Tot.to (by rw [e]; exact ih2 q.Having _ (by omega) (by omega) (by omega)) ?_
    rintro n3 ⟨c1, c2, _⟩
    rw [w64_id (x := 1 + n1) (by omega), w64_id (x := 1 + n1 + n2) (by omega), w64_id (x := 1 + n1 + n2 + n3) (by omega)]
    have hitems : Tot (whileL (law07_WeighQuery.b3 k (law07_weighAll k) (law07_Weigh k) (law07_WeighQuery k) (law07_weighFrom k) q d) k (1 + n1 + n2 + n3, (0 : Int))) fun r => (∃ n i, r = .go (n, i) ∧ 1 ≤ n ∧ n ≤ 5000) ∨ r = .ret 1000 := by
     refine Tot.whileL (fun t (b : Int × Int) => 1 ≤ b.1 ∧ b.1 ≤ 5000 ∧ 0 ≤ b.2 ∧ b.2 ≤ q.Items.length ∧ b.2 ≤ b.1 ∧ (1000 - b.1).toNat ≤ t) 1000 (by omega) ⟨by simp only []; omega, by simp only []; omega, by simp, by simp, by simp only []; omega, by simp only []; omega⟩ ?_
     rintro t ⟨n, i⟩ ⟨g1, g2, g3, g4, g5, g6⟩
     dsimp only at g1 g2 g3 g4 g5 g6
     unfold law07_WeighQuery.b3
     refine Tot.bind (Tot.dec (fun hi => Tot.ret ?_) (fun hi => Tot.ret ?_))
     · refine Tot.dec (fun hn => ?_) (fun hn => Tot.ret (.inl ⟨n, i, rfl, g1, g2⟩))
       refine Tot.bind (Tot.getO g3 hi fun x hx => ?_)
       refine Tot.to (by rw [e]; exact ih1 x.E _ (by omega) (by omega) (by omega)) ?_
       rintro g ⟨e1, e2, _⟩
       dsimp only at hi hn ⊢
       rw [w64_id (x := n + g) (by omega), w64_id (x := i + 1) (by omega)]
       exact Tot.dec (fun _ => Tot.ret (.inr rfl)) (fun _ => Tot.ret ⟨t - 1, by omega, by omega, by omega, by omega, by omega, by omega, by omega⟩)
     · exact Tot.ret (.inl ⟨n, i, rfl, g1, g2⟩)
    refine Tot.bind (hitems.mono ?_)
    rintro _ (⟨n4, i4, rfl, d1, d2⟩ | rfl)
    · refine Tot.bind (Tot.mono (sum_tot (R := Int) (xs := q.Order) (w := fun f => law07_Weigh k f.E (w64 (d + 1))) (fun _ => 0) (s := n4) (by omega) (by omega) (by omega) fun y _ => by rw [e]; exact (ih1 y.E _ (by omega) (by omega) (by omega)).mono fun n h => ⟨h.1, h.2.1, fun _ => by have := h.1; omega⟩) ?_)
      rintro _ ⟨n5, i5, rfl, e1, e2, _⟩
      refine Tot.bind (Tot.mono (sum_tot (R := Int) (xs := q.From) (w := fun f => law07_weighFrom k f (w64 (d + 1))) (fun _ => 0) (s := n5) (by omega) (by omega) (by omega) fun y _ => by rw [e]; exact ih4 y _ (by omega) (by omega) (by omega)) ?_)
      rintro _ ⟨n6, i6, rfl, f1, f2, _⟩
      refine Tot.bind (Tot.mono (sum_tot (R := Int) (xs := q.Kids) (w := fun f => law07_WeighQuery k f (w64 (d + 1))) (fun _ => 0) (s := n6) (by omega) (by omega) (by omega) fun y _ => by rw [e]; exact ih3 y _ (by omega) (by omega) (by omega)) ?_)
      rintro _ ⟨n7, i7, rfl, g1, g2, _⟩
      exact Tot.ret ⟨by simp only []; omega, by simp only []; omega, fun h => by simp only []; omega⟩
    · exact fin
  · show Tot (law07_weighFrom.F k _ _ _ _ q d) _
    unfold law07_weighFrom.F
    refine Tot.bind ?_
    have fin : Tot (some (1000 : Int)) (WG 0) := Tot.ret ⟨by omega, by omega, fun h => by omega⟩
    refine Tot.dec (fun h => Tot.ret fin) (fun h => Tot.dec (fun h => Tot.ret fin) (fun _ => Tot.ret (Tot.dec (fun _ => fin) (fun _ => ?_))))
    have e : w64 (d + 1) = d + 1 := w64_id (by omega)
    refine Tot.to (by rw [e]; exact ih2 q.On _ (by omega) (by omega) (by omega)) ?_
    rintro n1 ⟨a1, a2, _⟩
    rw [w64_id (x := 1 + n1) (by omega)]
    refine Tot.bind (Tot.mono (sum_tot (R := Int) (xs := q.Q) (w := fun f => law07_WeighQuery k f (w64 (d + 1))) (fun _ => 0) (s := 1 + n1) (by omega) (by omega) (by omega) fun y _ => by rw [e]; exact ih3 y _ (by omega) (by omega) (by omega)) ?_)
    rintro _ ⟨n6, i6, rfl, f1, f2, _⟩
    refine Tot.bind (Tot.mono (sum_tot (R := Int) (xs := q.Kids) (w := fun f => law07_weighFrom k f (w64 (d + 1))) (fun _ => 0) (s := n6) (by omega) (by omega) (by omega) fun y _ => by rw [e]; exact ih4 y _ (by omega) (by omega) (by omega)) ?_)
    rintro _ ⟨n7, i7, rfl, g1, g2, _⟩
    exact Tot.ret ⟨by simp only []; omega, by simp only []; omega, fun h => by simp only []; omega⟩
end Go.Proofs.YtknhbphhdfknaaaGreatDoor
set_option linter.unusedVariables false
set_option linter.unusedSimpArgs false
namespace Go.Proofs.YtknhbphhdfknaaaGreatDoor
theorem names_tot (k : Nat) (hk : 1002 ≤ k) (l : List ByteArray) : Tot (law07_weighNames k l) fun n => 0 ≤ n ∧ n ≤ 1000 ∧ (n < 1000 → (l.length : Int) = n) ∧ (0 < l.length → 1 ≤ n) := by
 unfold law07_weighNames
 refine Tot.bind (Tot.whileL (fun t (b : Int × Int) => b.1 = b.2 ∧ 0 ≤ b.2 ∧ b.1 ≤ 1000 ∧ b.2 ≤ l.length ∧ (1000 - b.1).toNat ≤ t) 1000 (by omega) ⟨rfl, by simp, by simp, by simp, by simp⟩ ?_)
 rintro t ⟨n, i⟩ ⟨g1, g2, g3, g4, g5⟩
 dsimp only at g1 g2 g3 g4 g5
 unfold law07_weighNames.b0
 refine Tot.bind (Tot.dec (fun hi => Tot.ret ?_) (fun hi => Tot.ret ?_))
 · refine Tot.dec (fun hn => ?_) (fun hn => Tot.ret (Tot.ret ⟨by omega, by omega, fun h => absurd h hn, fun _ => by omega⟩))
   refine Tot.bind (Tot.getO g2 hi fun x hx => ?_)
   dsimp only at hi hn ⊢
   rw [w64_id (x := n + 1) (by omega), w64_id (x := i + 1) (by omega)]
   exact Tot.dec (fun _ => Tot.ret (Tot.ret ⟨by omega, by omega, fun h => by omega, fun _ => by omega⟩)) (fun _ => Tot.ret ⟨t - 1, by omega, by omega, by omega, by omega, by omega, by omega⟩)
 · refine Tot.ret (Tot.ret ⟨by omega, by omega, fun h => by omega, fun h => by omega⟩)
theorem pairs_tot (k : Nat) (hk : 1002 ≤ k) (l : List TPair) : Tot (law07_weighPairs k l) fun n => 0 ≤ n ∧ n ≤ 1000 := by
 unfold law07_weighPairs
 refine Tot.bind (Tot.mono (sum_tot (R := Int) (xs := l) (w := fun d => law07_weighNames k [d.Low, d.High]) (fun _ => 0) (s := 0) (by omega) (by omega) (by omega) fun y _ => (names_tot k hk _).mono fun n h => ⟨h.2.2.2 (by simp), h.2.1, fun _ => by have := h.1; omega⟩) ?_)
 rintro _ ⟨n, i, rfl, a1, a2, a3⟩
 exact Tot.ret ⟨by simp only []; omega, by simp only []; omega⟩
def lightT (t : TTable) : Prop := t.Key.length ≤ 1000 ∧ nodesL t.When ≤ 1000
theorem wschema_tot (k : Nat) (hk : 3000 ≤ k) (s : TSchema) : Tot (law07_WeighSchema k s) fun n => n < 1000 → ∀ t, t ∈ s.Tables → lightT t := by
 unfold law07_WeighSchema
 refine Tot.to (names_tot k (by omega) _) ?_
 rintro n1 ⟨a1, a2, _⟩
 refine Tot.to (pairs_tot k (by omega) _) ?_
 rintro n2 ⟨b1, b2⟩
 refine Tot.to (pairs_tot k (by omega) _) ?_
 rintro n3 ⟨c1, c2⟩
 refine Tot.to (pairs_tot k (by omega) _) ?_
 rintro n4 ⟨d1, d2⟩
 rw [w64_id (x := n1 + n2) (by omega), w64_id (x := n1 + n2 + n3) (by omega), w64_id (x := n1 + n2 + n3 + n4) (by omega)]
 refine Tot.bind (Tot.whileL (fun t (b : Int × Int) => 0 ≤ b.2 ∧ b.2 ≤ b.1 ∧ b.1 ≤ 5000 ∧ b.2 ≤ s.Tables.length ∧ (1000 - b.1).toNat ≤ t ∧ (b.1 < 1000 → ∀ (j : Nat) t, (j : Int) < b.2 → s.Tables[j]? = some t → lightT t)) 1000 (by omega) ⟨by simp, by simp only []; omega, by simp only []; omega, by simp, by simp only []; omega, fun _ j t h => by simp only [] at h; omega⟩ ?_)
 rintro t ⟨n, i⟩ ⟨g1, g2, g3, g4, g5, g6⟩
 dsimp only at g1 g2 g3 g4 g5 g6
 unfold law07_WeighSchema.b0
 refine Tot.bind (Tot.dec (fun hi => Tot.ret ?_) (fun hi => Tot.ret ?_))
 · refine Tot.dec (fun hn => ?_) (fun hn => Tot.ret (Tot.ret fun h => by simp only [] at h; omega))
   refine Tot.bind (Tot.getO g1 hi fun x hx => ?_)
   refine Tot.to (names_tot k (by omega) _) ?_
   rintro m1 ⟨e1, e2, _⟩
   refine Tot.to (names_tot k (by omega) _) ?_
   rintro m2 ⟨f1, f2, f3, _⟩
   refine Tot.to ((weigh_all k).2.1 x.When 0 (by omega) (by omega) (by omega)) ?_
   rintro m3 ⟨h1, h2, h3⟩
   dsimp only at hi hn ⊢
   rw [w64_id (x := n + 1) (by omega), w64_id (x := n + 1 + m1) (by omega), w64_id (x := n + 1 + m1 + m2) (by omega), w64_id (x := n + 1 + m1 + m2 + m3) (by omega)]
   refine Tot.bind (Tot.mono (sum_tot (R := Int) (xs := x.Cols) (w := fun c => law07_weighNames k [c.Name, c.Level]) (fun _ => 0) (s := n + 1 + m1 + m2 + m3) (by omega) (by omega) (by omega) fun y _ => (names_tot k (by omega) _).mono fun n h => ⟨h.2.2.2 (by simp), h.2.1, fun _ => by have := h.1; omega⟩) ?_)
   rintro _ ⟨n', i', rfl, p1, p2, p3⟩
   rw [Lr.k, w64_id (x := i + 1) (by omega)]
   refine Tot.ret ⟨t - 1, by omega, by omega, by simp only []; omega, p2, by simp only []; omega, by simp only []; omega, fun hh j t' hj ht => ?_⟩
   dsimp only at hh hj
   by_cases hji : (j : Int) < i
   · exact g6 hn j t' hji ht
   · have : j = i.toNat := by omega
     subst this
     have hx' : s.Tables[i.toNat]? = some x := hx
     rw [hx'] at ht
     cases ht
     have := f3 (by omega); have := h3 (by omega)
     exact ⟨by omega, by omega⟩
 · refine Tot.ret (Tot.ret fun h => ?_)
   intro t' ht
   obtain ⟨j, hj⟩ := List.mem_iff_getElem?.1 ht
   have hlt : j < s.Tables.length := (List.getElem?_eq_some_iff.1 hj).1
   simp only [] at h hi
   exact g6 (by omega) j t' (by omega) hj
theorem few08_tot (k : Nat) (hk : 3000 ≤ k) (s : TSchema) : Tot (law08_Few k s) fun b => b = true → ∀ t, t ∈ s.Tables → lightT t := by
 unfold law08_Few
 refine Tot.bind (Tot.to (wschema_tot k hk s) ?_)
 intro n hn
 refine Tot.dec (fun h => Tot.ret (Tot.ret fun _ => hn (by omega))) (fun h => Tot.ret (Tot.ret (by simp)))
end Go.Proofs.YtknhbphhdfknaaaGreatDoor
set_option linter.unusedVariables false
set_option linter.unusedSimpArgs false
namespace Go.Proofs.YtknhbphhdfknaaaGreatDoor
theorem mget_mput {K V : Type} [DecidableEq K] (l : List (K × V)) (k k' : K) (v : V) : mget (mput l k v) k' = if k = k' then some v else mget l k' := by
 induction l with
 | nil => simp [mput, mget]
 | cons p l ih =>
  unfold mput
  by_cases h : p.1 = k
  · rw [if_pos h]
    unfold mget
    dsimp only
    by_cases h' : k = k'
    · simp [h']
    · simp [h', h]
  · rw [if_neg h]
    unfold mget
    by_cases h' : p.1 = k'
    · rw [if_pos h', if_pos h', if_neg (by rintro rfl; exact h h')]
    · rw [if_neg h', if_neg h', ih]
abbrev Places := List (ByteArray × Int)
def Prd (cols : Places) : Nat → TExpr → Prop
 | 0, _ => False
 | m + 1, x => x.Q = [] ∧ (∀ y, y ∈ x.Kids → Prd cols m y) ∧ (((x.Kind = 1 ∨ x.Kind = 2 ∨ x.Kind = 3 ∨ x.Kind = 4) ∧ x.Kids.length = 0) ∨ (x.Kind = 5 ∧ x.Kids.length = 0 ∧ (mget cols x.S).isSome = true) ∨ (x.Kind = 11 ∧ x.Kids.length = 3) ∨ (x.Kind = 10 ∧ x.Kids.length = 2) ∨ ((x.Kind = 8 ∨ x.Kind = 9) ∧ x.Kids.length = 1))
def Used (cols : Places) (u : List Int) (n : Nat) (u' : List Int) : Prop := u'.length ≤ u.length + n ∧ ∀ v, v ∈ u' → v ∈ u ∨ ∃ s, mget cols s = some v
theorem Used.refl (cols : Places) (u : List Int) (n : Nat) : Used cols u n u := ⟨by omega, fun v h => .inl h⟩
theorem Used.trans {cols : Places} {u v w : List Int} {n m l : Nat} (h : Used cols u n v) (k : Used cols v m w) (hl : n + m ≤ l) : Used cols u l w :=
 ⟨by have := h.1; have := k.1; omega, fun x hx => by
  rcases k.2 x hx with h1 | h1
  · exact h.2 x h1
  · exact .inr h1⟩
theorem nodesL_take (l : List TExpr) (j : Nat) (x : TExpr) (h : l[j]? = some x) : nodesL (l.take (j + 1)) = nodesL (l.take j) + nodes x := by
 rw [nodesL_sum, nodesL_sum]; exact sum_take nodes l j x h
theorem nodesL_take_le (l : List TExpr) (j : Nat) : nodesL (l.take j) ≤ nodesL l := by
 induction l generalizing j with
 | nil => simp [nodesL]
 | cons x l ih =>
  cases j with
  | zero => simp [nodesL]
  | succ j => simp only [List.take_succ_cons, nodesL]; have := ih j; omega
theorem shape_j1 {cols : Places} {m k : Nat} {p : Tschema_predicate} {x : TExpr} {d : Int} {u : List Int} {n : Int} (hd : d = 40 - m) (hm : m ≤ 40) (hc : p.cols_ = cols) (hu : u.length + nodesL x.Kids ≤ 4000)
 (ih : ∀ (p : Tschema_predicate) (y : TExpr), p.cols_ = cols → p.used_.length + nodes y ≤ 4000 → Tot (schema_predicate_shape k p y (41 - m)) fun r => Used cols p.used_ (nodes y) r.2.used_ ∧ (r.1 = true → Prd cols m y)) :
 Tot (schema_predicate_shape.j1 k (schema_predicate_shape k) x p d (u, n)) fun r => Used cols u (nodesL x.Kids) r.2.used_ ∧ (r.1 = true → (x.Kids.length : Int) = n ∧ ∀ y, y ∈ x.Kids → Prd cols m y) := by
 unfold schema_predicate_shape.j1
 refine Tot.ndec (fun _ => Tot.ret ⟨Used.refl _ _ _, by simp⟩) (fun hn => ?_)
 refine Tot.bind (Tot.forL (fun j u' => Used cols u (nodesL (x.Kids.take j)) u' ∧ ∀ y, y ∈ x.Kids.take j → Prd cols m y) ⟨Used.refl _ _ _, by simp⟩ ?_ ?_)
 · rintro j y u' hy ⟨h1, h2⟩
   unfold schema_predicate_shape.b0
   have e1 := nodesL_take x.Kids j y hy
   have e2 := nodesL_take_le x.Kids (j + 1)
   have e3 := h1.1
   rw [w64_id (by omega), show d + 1 = 41 - (m : Int) by omega]
   refine Tot.to (ih _ y hc (by simp only []; omega)) ?_
   rintro r ⟨g1, g2⟩
   refine Tot.not (fun _ => Tot.ret (Tot.ret ⟨h1.trans g1 (by omega), by simp⟩)) (fun hr => Tot.ret ⟨h1.trans g1 (by omega), fun z hz => ?_⟩)
   obtain ⟨hj, hy'⟩ := List.getElem?_eq_some_iff.1 hy
   rw [List.take_succ_eq_append_getElem hj, List.mem_append, hy', List.mem_singleton] at hz
   rcases hz with hz | rfl
   · exact h2 z hz
   · exact g2 hr
 · rintro u' ⟨h1, h2⟩
   rw [List.take_length] at h1 h2
   exact Tot.ret ⟨h1, fun _ => ⟨hn, h2⟩⟩
theorem total_tot (k : Nat) (s : ByteArray) : Tot (schema_total k s) fun _ => True := by
 unfold schema_total schema_total.j0 schema_total.j1
 refine Tot.bind ?_
 have fin : ∀ b : Bool, Tot (bif b then some true else ((bif decide (s=(⟨#[60]⟩:ByteArray)) then some (decide (s=(⟨#[60]⟩:ByteArray))) else (bif decide (s=(⟨#[60,61]⟩:ByteArray)) then some (decide (s=(⟨#[60,61]⟩:ByteArray))) else (bif decide (s=(⟨#[62]⟩:ByteArray)) then some (decide (s=(⟨#[62]⟩:ByteArray))) else some (decide (s=(⟨#[62,61]⟩:ByteArray)))))).bind fun d => (bif d then some true else some false))) fun _ => True := fun b => by
  cases b
  · refine Tot.bind ?_
    have fin' : ∀ b : Bool, Tot (bif b then some true else some false) fun _ => True := fun b => by cases b <;> exact Tot.ret trivial
    exact Tot.dec (fun _ => Tot.ret (fin' _)) (fun _ => Tot.dec (fun _ => Tot.ret (fin' _)) (fun _ => Tot.dec (fun _ => Tot.ret (fin' _)) (fun _ => Tot.ret (fin' _))))
  · exact Tot.ret trivial
 exact Tot.dec (fun _ => Tot.ret (fin _)) (fun _ => Tot.dec (fun _ => Tot.ret (fin _)) (fun _ => Tot.dec (fun _ => Tot.ret (fin _)) (fun _ => Tot.ret (fin _))))
theorem shape_tot (cols : Places) : ∀ (m k : Nat) (p : Tschema_predicate) (x : TExpr), m ≤ 40 → m < k → p.cols_ = cols → p.used_.length + nodes x ≤ 4000 →
 Tot (schema_predicate_shape k p x (41 - m)) fun r => Used cols p.used_ (nodes x) r.2.used_ ∧ (r.1 = true → Prd cols m x)
 | m, 0, _, _, _, h, _, _ => by omega
 | 0, k + 1, p, x, _, _, _, _ => by
  show Tot (schema_predicate_shape.F k _ p x _) _
  unfold schema_predicate_shape.F
  refine Tot.bind (Tot.dec (fun _ => Tot.ret (Tot.ret ⟨Used.refl _ _ _, by simp⟩)) (fun h => absurd (show (40 : Int) < 41 - ((0 : Nat) : Int) by decide) h))
 | m + 1, k + 1, p, x, hm, hk, hc, hu => by
  have ih := fun p y => shape_tot cols m k p y (by omega) (by omega)
  show Tot (schema_predicate_shape.F k _ p x _) _
  have hno := nodes_eq x
  have bad : Tot (some (false, p)) fun r => Used cols p.used_ (nodes x) r.2.used_ ∧ (r.1 = true → Prd cols (m + 1) x) := Tot.ret ⟨Used.refl _ _ _, by simp⟩
  have go : ∀ (u : List Int) (n : Int), Used cols p.used_ 1 u → (((x.Kids.length : Int) = n ∧ ∀ y, y ∈ x.Kids → Prd cols m y) → Prd cols (m + 1) x) →
   Tot (schema_predicate_shape.j1 k (schema_predicate_shape k) x p (41 - ((m + 1 : Nat) : Int)) (u, n)) fun r => Used cols p.used_ (nodes x) r.2.used_ ∧ (r.1 = true → Prd cols (m + 1) x) := fun u n h1 h2 =>
   (shape_j1 (by omega) (by omega) hc (by have := h1.1; omega) ih).mono fun r hr => ⟨h1.trans hr.1 (by omega), fun ht => h2 (hr.2 ht)⟩
  have r0 := Used.refl cols p.used_ 1
  unfold schema_predicate_shape.F
  refine Tot.bind (Tot.dec (fun _ => Tot.ret bad) (fun _ => Tot.ret (Tot.dec (fun _ => bad) (fun hq => ?_))))
  have hq' : x.Q = [] := List.eq_nil_of_length_eq_zero (by omega)
  refine Tot.dec (fun h2 => Tot.bind (Tot.dec (fun _ => Tot.ret bad) (fun _ => Tot.ret (Tot.dec (fun _ => bad) (fun _ => go _ _ r0 fun hk => ⟨hq', hk.2, .inl ⟨.inr (.inl h2), by omega⟩⟩))))) (fun _ => ?_)
  refine Tot.dec (fun h4 => Tot.dec (fun _ => bad) (fun _ => go _ _ r0 fun hk => ⟨hq', hk.2, .inl ⟨.inr (.inr (.inr h4)), by omega⟩⟩)) (fun _ => ?_)
  refine Tot.bind (Tot.dec (fun h1 => Tot.ret (Tot.dec (fun _ => go _ _ r0 fun hk => ⟨hq', hk.2, .inl ⟨.inl h1, by omega⟩⟩) (fun h => absurd h1 h))) (fun _ => Tot.ret (Tot.dec (fun h3 => go _ _ r0 fun hk => ⟨hq', hk.2, .inl ⟨.inr (.inr (.inl h3)), by omega⟩⟩) (fun _ => ?_))))
  refine Tot.dec (fun h5 => ?_) (fun _ => ?_)
  · rw [hc]
    have fin : (mget cols x.S).isSome = true → Tot ((lim (p.used_.length + ([((mget cols x.S).getD (0:Int))]).length)).bind fun _=>schema_predicate_shape.j1 k (schema_predicate_shape k) x p (41 - ((m + 1 : Nat) : Int)) ((p.used_ ++ [((mget cols x.S).getD (0:Int))]),(0:Int))) fun r => Used cols p.used_ (nodes x) r.2.used_ ∧ (r.1 = true → Prd cols (m + 1) x) := fun hs => by
     refine Tot.bind (Tot.lim (by simp; omega) (go _ _ ⟨by simp, fun v hv => ?_⟩ fun hk => ⟨hq', hk.2, .inr (.inl ⟨h5, by omega, hs⟩)⟩))
     rcases List.mem_append.1 hv with hv | hv
     · exact .inl hv
     · obtain ⟨i, hi⟩ := Option.isSome_iff_exists.1 hs
       rw [hi, List.mem_singleton] at hv
       exact .inr ⟨x.S, by rw [hi, hv]; rfl⟩
    refine Tot.bind (Tot.not (fun _ => Tot.ret bad) (fun hs => ?_))
    have two : ∀ b : Bool, Tot (bif b then some (false, p) else ((lim (p.used_.length + ([((mget cols x.S).getD (0:Int))]).length)).bind fun _=>schema_predicate_shape.j1 k (schema_predicate_shape k) x p (41 - ((m + 1 : Nat) : Int)) ((p.used_ ++ [((mget cols x.S).getD (0:Int))]),(0:Int)))) fun r => Used cols p.used_ (nodes x) r.2.used_ ∧ (r.1 = true → Prd cols (m + 1) x) := fun b => Tot.cond (fun _ => bad) (fun _ => fin hs)
    exact Tot.ndec (fun _ => Tot.ret (two _)) (fun _ => Tot.ret (two _))
  refine Tot.dec (fun h11 => go _ _ r0 fun hk => ⟨hq', hk.2, .inr (.inr (.inl ⟨h11, by omega⟩))⟩) (fun _ => ?_)
  refine Tot.dec (fun h10 => ?_) (fun _ => ?_)
  · refine Tot.to (total_tot k x.S) fun b _ => ?_
    refine Tot.not (fun _ => bad) (fun _ => ?_)
    unfold schema_predicate_shape.j2
    exact go _ _ r0 fun hk => ⟨hq', hk.2, .inr (.inr (.inr (.inl ⟨h10, by have := hk.1; simp only [show w64 (w64 (0 + 1) + 1) = 2 from by decide] at this; omega⟩)))⟩
  · unfold schema_predicate_shape.j2
    have fin : (x.Kind = 8 ∨ x.Kind = 9) → Tot (schema_predicate_shape.j1 k (schema_predicate_shape k) x p (41 - ((m + 1 : Nat) : Int)) (p.used_,w64 ((0:Int) + (1:Int)))) fun r => Used cols p.used_ (nodes x) r.2.used_ ∧ (r.1 = true → Prd cols (m + 1) x) := fun h =>
     go _ _ r0 fun hk => ⟨hq', hk.2, .inr (.inr (.inr (.inr ⟨h, by have := hk.1; simp only [show w64 (0 + 1) = 1 from by decide] at this; omega⟩)))⟩
    exact Tot.bind (Tot.dec (fun h => Tot.ret (Tot.dec (fun _ => fin (.inl h)) (fun h' => absurd h h'))) (fun _ => Tot.ret (Tot.dec (fun h => fin (.inr h)) (fun _ => bad))))
def ColsOk (n : Nat) (cols : Places) : Prop := ∀ s v, mget cols s = some v → 0 ≤ v ∧ v < n
theorem logical_tot (k : Nat) (t : Int) : Tot (schema_logical k t) fun _ => True := by
 unfold schema_logical
 exact Tot.bind (Tot.dec (fun _ => Tot.ret (Tot.ret trivial)) (fun _ => Tot.ret (Tot.ret trivial)))
theorem one_tot (k : Nat) (a b : Int) : Tot (schema_one k a b) fun _ => True := by
 unfold schema_one
 have fin : ∀ d : Bool, Tot (bif d then some a else some (-1 : Int)) fun _ => True := fun d => Tot.cond (fun _ => Tot.ret trivial) (fun _ => Tot.ret trivial)
 have fin2 : ∀ e : Bool, Tot (bif e then some (-1:Int) else (bif decide (a=(0:Int)) then some b else (((bif decide (b=(0:Int)) then some true else some (decide (a=b)))).bind fun d=>(bif d then some a else some (-1:Int))))) fun _ => True := fun e =>
  Tot.cond (fun _ => Tot.ret trivial) (fun _ => Tot.dec (fun _ => Tot.ret trivial) (fun _ => Tot.bind (Tot.dec (fun _ => Tot.ret (fin _)) (fun _ => Tot.ret (fin _)))))
 exact Tot.bind (Tot.dec (fun _ => Tot.ret (fin2 _)) (fun _ => Tot.ret (fin2 _)))
theorem typeOf_tot {cols : Places} {q : Tschema_predicate} {rel : TRelation} (hq : q.cols_ = cols) (hr : q.r_ = some rel) (hc : ColsOk rel.Cols.length cols) : ∀ (m k : Nat) (x : TExpr), 2 * m < k → Prd cols m x → Tot (schema_predicate_typeOf k (some q) x) fun _ => True
 | 0, _, _, _, h => h.elim
 | m + 1, k + 2, x, hk, h => by
  obtain ⟨_, hkids, hkind⟩ := h
  have kid : ∀ i : Int, 0 ≤ i → i < x.Kids.length → Tot (schema_predicate_typeOf_1 (k + 1) i (some (some q)) (some x)) fun _ => True := fun i h0 h1 => by
   show Tot (schema_predicate_typeOf_1.F k _ _ i (some (some q)) (some x)) _
   unfold schema_predicate_typeOf_1.F
   refine Tot.optE rfl (Tot.optE rfl (Tot.bind (Tot.getO h0 h1 fun y hy => ?_)))
   exact Tot.to (typeOf_tot hq hr hc m k y (by omega) (hkids y (List.mem_of_getElem? hy))) fun _ _ => Tot.ret trivial
  show Tot (schema_predicate_typeOf.F (k + 1) _ _ (some q) x) _
  unfold schema_predicate_typeOf.F
  have ok : ∀ v : Int, Tot (some v) fun _ => True := fun v => Tot.ret trivial
  refine Tot.dec (fun _ => ok _) (fun n1 => Tot.dec (fun _ => ok _) (fun n2 => Tot.dec (fun _ => ok _) (fun n3 => Tot.dec (fun _ => ok _) (fun n4 => Tot.dec (fun h5 => ?_) (fun n5 => Tot.dec (fun h8 => ?_) (fun n8 => Tot.dec (fun h9 => ?_) (fun n9 => Tot.dec (fun h11 => ?_) (fun n11 => ?_))))))))
  · have hs : (mget cols x.S).isSome = true := by
     rcases hkind with ⟨h, _⟩ | ⟨_, _, h⟩ | ⟨h, _⟩ | ⟨h, _⟩ | ⟨h, _⟩
     · omega
     · exact h
     all_goals omega
    obtain ⟨v, hv⟩ := Option.isSome_iff_exists.1 hs
    have := hc _ _ hv
    refine Tot.optE rfl (Tot.optE hr (Tot.bind (Tot.getO ?_ ?_ fun _ _ => ok _)))
    · rw [hq, hv]; exact this.1
    · rw [hq, hv]; exact this.2
  · have hl : x.Kids.length = 1 := by rcases hkind with h | h | h | h | h <;> omega
    exact Tot.to (kid 0 (by omega) (by omega)) fun _ _ => Tot.to (logical_tot _ _) fun _ _ => Tot.not (fun _ => ok _) (fun _ => ok _)
  · have hl : x.Kids.length = 1 := by rcases hkind with h | h | h | h | h <;> omega
    exact Tot.to (kid 0 (by omega) (by omega)) fun _ _ => Tot.dec (fun _ => ok _) (fun _ => ok _)
  · have hl : x.Kids.length = 3 := by rcases hkind with h | h | h | h | h <;> omega
    exact Tot.to (kid 0 (by omega) (by omega)) fun _ _ => Tot.to (logical_tot _ _) fun _ _ => Tot.not (fun _ => ok _) (fun _ => Tot.to (kid 1 (by omega) (by omega)) fun _ _ => Tot.to (kid 2 (by omega) (by omega)) fun _ _ => Tot.to (one_tot _ _ _) fun _ _ => ok _)
  · have hl : x.Kids.length = 2 := by rcases hkind with h | h | h | h | h <;> omega
    refine Tot.to (kid 0 (by omega) (by omega)) fun a _ => Tot.to (kid 1 (by omega) (by omega)) fun b _ => ?_
    have two : ∀ g : Bool, Tot (bif g then some (-1 : Int) else some (1 : Int)) fun _ => True := fun g => Tot.cond (fun _ => ok _) (fun _ => ok _)
    have fin : ∀ g : Bool, Tot (bif g then ((((schema_logical (k + 1) a).bind fun o=>(bif !o then some true else ((schema_logical (k + 1) b).bind fun p=>some (!p))))).bind fun h=>(bif h then some (-1:Int) else some (1:Int))) else ((schema_one (k + 1) a b).bind fun s=>(bif decide (s=(-1:Int)) then some (-1:Int) else some (1:Int)))) fun _ => True := fun g =>
     Tot.cond (fun _ => Tot.bind (Tot.to (logical_tot _ _) fun _ _ => Tot.not (fun _ => Tot.ret (two _)) (fun _ => Tot.to (logical_tot _ _) fun _ _ => Tot.ret (two _)))) (fun _ => Tot.to (one_tot _ _ _) fun _ _ => two _)
    exact Tot.bind (Tot.dec (fun _ => Tot.ret (fin _)) (fun _ => Tot.ret (fin _)))
 | m + 1, 0, _, h, _ => by omega
 | m + 1, 1, _, h, _ => by omega
end Go.Proofs.YtknhbphhdfknaaaGreatDoor
set_option linter.unusedVariables false
set_option linter.unusedSimpArgs false
namespace Go.Proofs.YtknhbphhdfknaaaGreatDoor
section
variable {α R S : Type} {body : Nat → α → S → Option (Step R S)}
theorem forL_from (P : Nat → S → Prop) (Q : R → Prop) : ∀ (xs : List α) (i : Nat) (s : S), (∀ (j : Nat) (x : α) (s : S), xs[j]? = some x → P (i + j) s → (∃ s', body (i + j) x s = some (.next s') ∧ P (i + j + 1) s') ∨ (∃ r, body (i + j) x s = some (.ret r) ∧ Q r)) → P i s →
 (∃ s', forL body i xs s = some (.go s') ∧ P (i + xs.length) s') ∨ (∃ r, forL body i xs s = some (.ret r) ∧ Q r)
 | [], i, s, _, h0 => .inl ⟨s, rfl, h0⟩
 | x :: xs, i, s, h, h0 => by
  rcases h 0 x s rfl h0 with ⟨s', h1, h2⟩ | ⟨r, h1, h2⟩
  · rcases forL_from P Q xs (i + 1) s' (fun j y t hj hP => by
     have := h (j + 1) y t (by simpa using hj) (by rw [← Nat.add_assoc, Nat.add_right_comm]; exact hP)
     rw [← Nat.add_assoc, Nat.add_right_comm] at this
     exact this) h2 with ⟨t, h3, h4⟩ | ⟨r, h3, h4⟩
    · left
      refine ⟨t, ?_, ?_⟩
      · simp only [Nat.add_zero] at h1; simp only [forL, h1, Option.bind_some]; exact h3
      · rw [List.length_cons, Nat.add_comm xs.length, ← Nat.add_assoc]; exact h4
    · right
      refine ⟨r, ?_, h4⟩
      simp only [Nat.add_zero] at h1; simp only [forL, h1, Option.bind_some]; exact h3
  · right
    refine ⟨r, ?_, h2⟩
    simp only [Nat.add_zero] at h1; simp only [forL, h1, Option.bind_some]
theorem forL_spec (P : Nat → S → Prop) (Q : R → Prop) {xs : List α} {s : S} (h0 : P 0 s) (h : ∀ (j : Nat) (x : α) (s : S), xs[j]? = some x → P j s → (∃ s', body j x s = some (.next s') ∧ P (j + 1) s') ∨ (∃ r, body j x s = some (.ret r) ∧ Q r)) :
 (∃ s', forL body 0 xs s = some (.go s') ∧ P xs.length s') ∨ (∃ r, forL body 0 xs s = some (.ret r) ∧ Q r) := by
 have := forL_from (body := body) P Q xs 0 s (fun j x s hj hP => by simpa using h j x s hj (by simpa using hP)) h0
 simpa using this
theorem forL_end (P : Nat → S → Prop) {xs : List α} {s : S} (h0 : P 0 s) (h : ∀ (j : Nat) (x : α) (s : S), xs[j]? = some x → P j s → ∃ s', body j x s = some (.next s') ∧ P (j + 1) s') :
 ∃ s', forL body 0 xs s = some (.go s') ∧ P xs.length s' := by
 rcases forL_spec P (fun _ => False) h0 (fun j x s hj hP => .inl (h j x s hj hP)) with h | ⟨_, _, h⟩
 · exact h
 · exact h.elim
end
theorem whileL_spec {R S : Type} {body : S → Option (Step R S)} (P : S → Prop) (Q : Lr R S → Prop) (μ : S → Nat) (h : ∀ s, P s → (∃ s', body s = some (.next s') ∧ P s' ∧ μ s' < μ s) ∨ (∃ s', body s = some (.brk s') ∧ Q (.go s')) ∨ (∃ r, body s = some (.ret r) ∧ Q (.ret r))) :
 ∀ (k : Nat) (s : S), P s → μ s < k → ∃ o, whileL body k s = some o ∧ Q o
 | 0, _, _, hk => absurd hk (Nat.not_lt_zero _)
 | k + 1, s, hP, hk => by
  rcases h s hP with ⟨s', h1, h2, h3⟩ | ⟨s', h1, h2⟩ | ⟨r, h1, h2⟩
  · obtain ⟨o, g1, g2⟩ := whileL_spec P Q μ h k s' h2 (by omega)
    exact ⟨o, by simp only [whileL, h1, Option.bind_some]; exact g1, g2⟩
  · exact ⟨_, by simp only [whileL, h1, Option.bind_some], h2⟩
  · exact ⟨_, by simp only [whileL, h1, Option.bind_some], h2⟩
theorem lim_ok {n : Nat} (h : n ≤ 4294967296) : lim n = some () := by simp [lim, h]
theorem getO_nat {α : Type} (xs : List α) (i : Nat) : getO xs (i : Int) = xs[i]? := by simp [getO]
theorem setO_nat {α : Type} (xs : List α) (i : Nat) (x : α) : setO xs (i : Int) x = xs.set i x := by simp [setO]
theorem wrap_u32 {x : Nat} (h : x < 4294967296) : IntKind.wrap .u32 (x : Int) = (x : Int) := by
 unfold IntKind.wrap
 simp [IntKind.bits, IntKind.signed]
 omega
theorem ofInt32 (m : Nat) : BitVec.ofInt 32 (m : Int) = BitVec.ofNat 32 m := by simp
theorem or_u32 {a b : Nat} (ha : a < 4294967296) (hb : b < 4294967296) : IntKind.wrap .u32 ((BitVec.ofInt (IntKind.bits .u32) (a : Int)) ||| (BitVec.ofInt (IntKind.bits .u32) (b : Int))).toNat = ((a ||| b : Nat) : Int) := by
 show IntKind.wrap .u32 (((BitVec.ofInt 32 (a : Int)) ||| (BitVec.ofInt 32 (b : Int))).toNat : Int) = _
 rw [ofInt32, ofInt32, BitVec.toNat_or, BitVec.toNat_ofNat, BitVec.toNat_ofNat, Nat.mod_eq_of_lt ha, Nat.mod_eq_of_lt hb]
 exact wrap_u32 (Nat.or_lt_two_pow (n := 32) ha hb)
theorem and_u32 {a b : Nat} (ha : a < 4294967296) (hb : b < 4294967296) : IntKind.wrap .u32 ((BitVec.ofInt (IntKind.bits .u32) (a : Int)) &&& (BitVec.ofInt (IntKind.bits .u32) (b : Int))).toNat = ((a &&& b : Nat) : Int) := by
 show IntKind.wrap .u32 (((BitVec.ofInt 32 (a : Int)) &&& (BitVec.ofInt 32 (b : Int))).toNat : Int) = _
 rw [ofInt32, ofInt32, BitVec.toNat_and, BitVec.toNat_ofNat, BitVec.toNat_ofNat, Nat.mod_eq_of_lt ha, Nat.mod_eq_of_lt hb]
 exact wrap_u32 (Nat.and_lt_two_pow (n := 32) a hb)
theorem shl_one {i : Nat} (h : i < 32) : shlO .u32 (1 : Int) (i : Int) = some ((2 ^ i : Nat) : Int) := by
 unfold shlO
 rw [if_neg (by omega)]
 have h1 : min (i : Int).toNat (IntKind.bits .u32) = i := by simp [IntKind.bits]; omega
 have h2 : (2 ^ i : Nat) < 4294967296 := Nat.pow_lt_pow_right (m := i) (n := 32) (by omega) h
 have h3 : (1 : Int) * 2 ^ i = ((2 ^ i : Nat) : Int) := by simp
 rw [h1, h3, wrap_u32 h2]
theorem shr_u32 {m i : Nat} (h : i < 32) : shrO .u32 (m : Int) (i : Int) = some ((m >>> i : Nat) : Int) := by
 unfold shrO
 rw [if_neg (by omega)]
 have h1 : min (i : Int).toNat (IntKind.bits .u32) = i := by simp [IntKind.bits]; omega
 rw [h1, Nat.shiftRight_eq_div_pow]
 congr 1
 have : ((2 : Int) ^ i) = ((2 ^ i : Nat) : Int) := by simp
 have hp : 0 < 2 ^ i := Nat.two_pow_pos i
 rw [this, Int.fdiv_eq_ediv_of_nonneg _ (Int.natCast_nonneg _)]
 rfl
theorem ofNat_bit (a : Nat) {i : Nat} (h : i < 32) : (BitVec.ofNat 32 a)[i] = a.testBit i := by
 rw [← BitVec.getLsbD_eq_getElem, BitVec.getLsbD_ofNat]; simp [h]
theorem andnot_u32 {a b : Nat} (ha : a < 4294967296) (hb : b < 4294967296) : IntKind.wrap .u32 ((BitVec.ofInt (IntKind.bits .u32) (a : Int)) &&& ~~~(BitVec.ofInt (IntKind.bits .u32) (b : Int))).toNat = 0 ↔ ∀ i, a.testBit i = true → b.testBit i = true := by
 show IntKind.wrap .u32 (((BitVec.ofInt 32 (a : Int)) &&& ~~~(BitVec.ofInt 32 (b : Int))).toNat : Int) = 0 ↔ _
 rw [ofInt32, ofInt32]
 have hlt : ((BitVec.ofNat 32 a) &&& ~~~(BitVec.ofNat 32 b)).toNat < 4294967296 := BitVec.isLt _
 rw [wrap_u32 hlt]
 constructor
 · intro h i hi
   have h0 : (BitVec.ofNat 32 a) &&& ~~~(BitVec.ofNat 32 b) = 0#32 := BitVec.eq_of_toNat_eq (by simpa using h)
   have hi32 : i < 32 := by
    rcases Nat.lt_or_ge i 32 with h | h
    · exact h
    · have := Nat.testBit_lt_two_pow (x := a) (i := i) (Nat.lt_of_lt_of_le ha (Nat.pow_le_pow_right (n := 2) (by omega) h))
      rw [this] at hi; cases hi
   have := congrArg (fun v => v.getLsbD i) h0
   simp [hi32, ofNat_bit, hi] at this
   exact this
 · intro h
   have h0 : (BitVec.ofNat 32 a) &&& ~~~(BitVec.ofNat 32 b) = 0#32 := by
    apply BitVec.eq_of_getLsbD_eq
    intro i hi
    simp [hi, ofNat_bit]
    exact h i
   rw [h0]; rfl
theorem take_succ {α : Type} {l : List α} {j : Nat} {x : α} (h : l[j]? = some x) : l.take (j + 1) = l.take j ++ [x] := by
 obtain ⟨hlt, he⟩ := List.getElem?_eq_some_iff.1 h
 rw [List.take_succ_eq_append_getElem hlt, he]
end Go.Proofs.YtknhbphhdfknaaaGreatDoor
set_option linter.unusedVariables false
set_option linter.unusedSimpArgs false
namespace Go.Proofs.YtknhbphhdfknaaaGreatDoor
structure Bits (n : Nat) (up : List Int) (r : Nat → Nat → Prop) : Prop where
 len : up.length = n
 bits : ∀ a, a < n → ∃ m : Nat, up[a]? = some (m : Int) ∧ m < 2 ^ n ∧ ∀ b, m.testBit b = true ↔ r a b
theorem Bits.uniq {n : Nat} {up up' : List Int} {r : Nat → Nat → Prop} (h : Bits n up r) (h' : Bits n up' r) : up = up' := by
 apply List.ext_getElem?
 intro a
 by_cases ha : a < n
 · obtain ⟨m, h1, _, h2⟩ := h.bits a ha
   obtain ⟨m', g1, _, g2⟩ := h'.bits a ha
   rw [h1, g1]
   have : m = m' := Nat.eq_of_testBit_eq fun b => by
    have := (h2 b).trans (g2 b).symm
    cases e1 : m.testBit b <;> cases e2 : m'.testBit b <;> simp_all
   rw [this]
 · rw [List.getElem?_eq_none (by rw [h.len]; omega), List.getElem?_eq_none (by rw [h'.len]; omega)]
theorem Bits.congr {n : Nat} {up : List Int} {r r' : Nat → Nat → Prop} (h : Bits n up r) (e : ∀ a b, a < n → (r a b ↔ r' a b)) : Bits n up r' :=
 ⟨h.len, fun a ha => by obtain ⟨m, h1, h2, h3⟩ := h.bits a ha; exact ⟨m, h1, h2, fun b => (h3 b).trans (e a b ha)⟩⟩
theorem lt_u32 {n m : Nat} (hn : n ≤ 16) (h : m < 2 ^ n) : m < 4294967296 := Nat.lt_of_lt_of_le h (Nat.le_trans (Nat.pow_le_pow_right (by omega) hn) (by decide))
theorem Bits.lt {n : Nat} {up : List Int} {r : Nat → Nat → Prop} (h : Bits n up r) {a b : Nat} (ha : a < n) (hr : r a b) : b < n := by
 obtain ⟨m, _, h2, h3⟩ := h.bits a ha
 rcases Nat.lt_or_ge b n with hb | hb
 · exact hb
 · have := (h3 b).2 hr
   rw [Nat.testBit_lt_two_pow (Nat.lt_of_lt_of_le h2 (Nat.pow_le_pow_right (by omega) hb))] at this
   cases this
theorem has_nat {m b : Nat} (k : Nat) (hm : m < 4294967296) (hb : b < 32) : lattice_set_has k (m : Int) (b : Int) = some (m.testBit b) := by
 unfold lattice_set_has
 have h1 : (m >>> b) < 4294967296 := Nat.lt_of_le_of_lt (Nat.shiftRight_le m b) hm
 rw [shr_u32 hb, Option.bind_some, show (1 : Int) = ((1 : Nat) : Int) from rfl, and_u32 h1 (by omega)]
 congr 1
 rw [Nat.testBit, Nat.and_comm]
 have : (1 : Nat) &&& m >>> b = (m >>> b) % 2 := by rw [Nat.and_comm, Nat.and_one_is_mod]
 rw [this]
 rcases Nat.mod_two_eq_zero_or_one (m >>> b) with h | h <;> simp [h]
def atL (o : Nat) (l : List ByteArray) : List (ByteArray × Int) := (l.zipIdx o).map fun p => (p.1, (p.2 : Int))
theorem atL_cons (o : Nat) (x : ByteArray) (l : List ByteArray) : atL o (x :: l) = (x, (o : Int)) :: atL (o + 1) l := by simp [atL]
theorem at_some : ∀ (l : List ByteArray) (o : Nat) (x : ByteArray) (v : Int), mget (atL o l) x = some v → ∃ i : Nat, v = ((o + i : Nat) : Int) ∧ l[i]? = some x
 | [], o, x, v, h => by simp [atL, mget] at h
 | y :: l, o, x, v, h => by
  rw [atL_cons] at h
  unfold mget at h
  split at h
  · rename_i hy
    cases h
    exact ⟨0, rfl, by simpa using hy⟩
  · obtain ⟨i, h1, h2⟩ := at_some l (o + 1) x v h
    exact ⟨i + 1, by rw [h1]; congr 1; omega, by simpa using h2⟩
theorem at_none : ∀ (l : List ByteArray) (o : Nat) (x : ByteArray), mget (atL o l) x = none ↔ x ∉ l
 | [], o, x => by simp [atL, mget]
 | y :: l, o, x => by
  rw [atL_cons]
  unfold mget
  split
  · rename_i hy
    simp only at hy
    subst hy
    simp
  · rename_i hy
    simp only at hy
    rw [at_none l (o + 1) x]
    constructor
    · intro h hm
      rcases List.mem_cons.1 hm with rfl | hm
      · exact hy rfl
      · exact h hm
    · exact fun h hm => h (List.mem_cons_of_mem _ hm)
theorem at_put : ∀ (l : List ByteArray) (o : Nat) (x : ByteArray), x ∉ l → mput (atL o l) x ((o + l.length : Nat) : Int) = atL o (l ++ [x])
 | [], o, x, _ => by simp [atL, mput]
 | y :: l, o, x, h => by
  rw [List.cons_append, atL_cons, atL_cons]
  unfold mput
  rw [if_neg (fun e => h (by simp only at e; rw [e]; exact List.mem_cons_self))]
  have := at_put l (o + 1) x (fun hm => h (List.mem_cons_of_mem _ hm))
  rw [← this]
  congr 2
  simp only [List.length_cons]; omega
def nmBad (names : List ByteArray) (j : Nat) (x : ByteArray) : Prop := x = (⟨#[]⟩ : ByteArray) ∨ (30 : Int) < (x.size : Int) ∨ x ∈ names.take j
def pows (n : Nat) : List Int := (List.range n).map fun i => ((2 ^ i : Nat) : Int)
theorem pows_bits (n : Nat) : Bits n (pows n) (fun a b => a = b) := by
 refine ⟨by simp [pows], fun a ha => ⟨2 ^ a, by simp [pows, ha], Nat.pow_lt_pow_right (by omega) ha, fun b => ?_⟩⟩
 rw [Nat.testBit_two_pow]; simp
theorem named_spec (k : Nat) (names : List ByteArray) (J M : List Int) (hn : names.length ≤ 16) :
 (lattice_Lattice_named k ⟨names, [], [], [], J, M⟩ = some (0, ⟨names, atL 0 names, pows names.length, pows names.length, J, M⟩) ∧ ∀ j x, names[j]? = some x → ¬ nmBad names j x) ∨
 ∃ L, lattice_Lattice_named k ⟨names, [], [], [], J, M⟩ = some (11, L) ∧ ∃ j x, names[j]? = some x ∧ nmBad names j x := by
 unfold lattice_Lattice_named
 rcases forL_spec (body := lattice_Lattice_named.b0 k ⟨names, [], [], [], J, M⟩) (xs := names) (s := ([], [], []))
  (fun j s => s.1 = atL 0 (names.take j) ∧ s.2.1 = pows j ∧ s.2.2 = pows j ∧ ∀ i x, i < j → names[i]? = some x → ¬ nmBad names i x)
  (fun r => r.1 = 11 ∧ ∃ j x, names[j]? = some x ∧ nmBad names j x) ⟨by simp [atL], by simp [pows], by simp [pows], by simp⟩ (by
   rintro j x ⟨at_, up, dn⟩ hx ⟨h1, h2, h3, h4⟩
   simp only at h1 h2 h3
   subst h1; subst h2; subst h3
   have hj : j < names.length := (List.getElem?_eq_some_iff.1 hx).1
   have hlen : (names.take j).length = j := by simp; omega
   unfold lattice_Lattice_named.b0
   by_cases hb : nmBad names j x
   · right
     have : (bif (mget (atL 0 (names.take j)) x).isSome then some true else (bif decide (x = (⟨#[]⟩ : ByteArray)) then some true else some (decide ((30 : Int) < (x.size : Int))))) = some true := by
      rcases hb with hb | hb | hb
      · cases (mget (atL 0 (names.take j)) x).isSome <;> simp [hb]
      · cases (mget (atL 0 (names.take j)) x).isSome <;> cases decide (x = (⟨#[]⟩ : ByteArray)) <;> simp [hb]
      · have : (mget (atL 0 (names.take j)) x).isSome = true := by
         cases hm : mget (atL 0 (names.take j)) x with
         | none => exact absurd hb ((at_none _ _ _).1 hm)
         | some v => rfl
        rw [this]; rfl
     refine ⟨_, by simp only [this, Option.bind_some]; rfl, rfl, j, x, hx, hb⟩
   · left
     have hni : x ∉ names.take j := fun h => hb (.inr (.inr h))
     have h1 : (mget (atL 0 (names.take j)) x).isSome = false := by rw [(at_none _ _ _).2 hni]; rfl
     have h2 : decide (x = (⟨#[]⟩ : ByteArray)) = false := decide_eq_false fun e => hb (.inl e)
     have h3 : decide ((30 : Int) < (x.size : Int)) = false := decide_eq_false fun e => hb (.inr (.inl e))
     have hpl : (pows j).length = j := by simp [pows]
     have hps : pows (j + 1) = pows j ++ [((2 ^ j : Nat) : Int)] := by simp [pows, List.range_succ]
     refine ⟨(atL 0 (names.take (j + 1)), pows (j + 1), pows (j + 1)), ?_, rfl, rfl, rfl, fun i y hi hy => ?_⟩
     · simp only [h1, h2, h3, cond_false, Option.bind_some, shl_one (show j < 32 by omega), hpl, List.length_singleton, lim_ok (show j + 1 ≤ 4294967296 by omega), hps]
       rw [take_succ hx, ← at_put _ _ _ hni, hlen, Nat.zero_add]
     · rcases Nat.lt_or_ge i j with h | h
       · exact h4 i y h hy
       · have : i = j := by omega
         subst this
         rw [hx] at hy; cases hy; exact hb) with ⟨s, h1, h2, h3, h4, h5⟩ | ⟨r, h1, h2, h3⟩
 · left
   refine ⟨?_, fun j x hx => h5 j x (List.getElem?_eq_some_iff.1 hx).1 hx⟩
   obtain ⟨a, b, c⟩ := s
   simp only at h2 h3 h4
   subst h2; subst h3; subst h4
   simp only [h1, Option.bind_some, Lr.k, List.take_length]
 · right
   obtain ⟨a, L⟩ := r
   simp only at h2
   subst h2
   exact ⟨L, by simp only [h1, Option.bind_some, Lr.k], h3⟩
end Go.Proofs.YtknhbphhdfknaaaGreatDoor
set_option linter.unusedVariables false
set_option linter.unusedSimpArgs false
namespace Go.Proofs.YtknhbphhdfknaaaGreatDoor
def ed (names : List ByteArray) (E : List TPair) (a b : Nat) : Prop := ∃ e, e ∈ E ∧ names[a]? = some e.Low ∧ names[b]? = some e.High
inductive Way (names : List ByteArray) (E : List TPair) : Nat → Nat → Prop where
 | refl (a : Nat) (h : a < names.length) : Way names E a a
 | step {a b c : Nat} (h : Way names E a b) (k : ed names E b c) : Way names E a c
theorem Way.trans {names : List ByteArray} {E : List TPair} {a b c : Nat} (h : Way names E a b) (k : Way names E b c) : Way names E a c := by
 induction k with
 | refl => exact h
 | step _ k ih => exact ih.step k
def Apart (names : List ByteArray) : Prop := ∀ (i j : Nat) (x : ByteArray), names[i]? = some x → names[j]? = some x → i = j
theorem apart_of {names : List ByteArray} (h : ∀ j x, names[j]? = some x → ¬ nmBad names j x) : Apart names := by
 have key : ∀ (i j : Nat) (x : ByteArray), i < j → names[i]? = some x → names[j]? = some x → False := fun i j x hij h1 h2 =>
  h j x h2 (.inr (.inr (List.mem_of_getElem? (i := i) (by rw [List.getElem?_take, if_pos hij]; exact h1))))
 intro i j x h1 h2
 rcases Nat.lt_trichotomy i j with h3 | h3 | h3
 · exact (key i j x h3 h1 h2).elim
 · exact h3
 · exact (key j i x h3 h2 h1).elim
theorem Bits.set {n : Nat} {up : List Int} {r : Nat → Nat → Prop} (h : Bits n up r) {a m : Nat} (ha : a < n) (hm : m < 2 ^ n) : Bits n (up.set a (m : Int)) (fun x y => if x = a then m.testBit y = true else r x y) := by
 refine ⟨by simp [h.len], fun x hx => ?_⟩
 by_cases e : x = a
 · subst e
   exact ⟨m, by rw [List.getElem?_set_self (by rw [h.len]; exact ha)], hm, fun b => by simp⟩
 · obtain ⟨m', h1, h2, h3⟩ := h.bits x hx
   exact ⟨m', by rw [List.getElem?_set_ne (fun h => e h.symm)]; exact h1, h2, fun b => by rw [h3, if_neg e]⟩
theorem Bits.orr {n : Nat} {up : List Int} {r : Nat → Nat → Prop} (h : Bits n up r) (hn : n ≤ 16) {a m m' : Nat} (ha : a < n) (hu : up[a]? = some (m : Int)) (hm' : m' < 2 ^ n) :
 Bits n (setO up (a : Int) (IntKind.wrap .u32 ((BitVec.ofInt (IntKind.bits .u32) (m : Int)) ||| (BitVec.ofInt (IntKind.bits .u32) (m' : Int))).toNat)) (fun x y => r x y ∨ (x = a ∧ m'.testBit y = true)) := by
 obtain ⟨q, h1, h2, h3⟩ := h.bits a ha
 have hq : q = m := by rw [hu] at h1; simp only [Option.some.injEq] at h1; omega
 subst hq
 rw [or_u32 (lt_u32 hn h2) (lt_u32 hn hm'), setO_nat]
 refine (h.set ha (Nat.or_lt_two_pow h2 hm')).congr fun x y hx => ?_
 by_cases e : x = a
 · subst e; simp [Nat.testBit_or, h3]
 · simp [e]
section
variable {names : List ByteArray} {E : List TPair} {J M : List Int} {n : Nat}
theorem edges_first (k : Nat) (hd : Apart names) (hn : names.length ≤ 16) (U D : List Int) (hU : Bits names.length U (fun a b => a = b)) :
 (∃ up, forL (lattice_Lattice_edges.b5 k ⟨names, atL 0 names, U, D, J, M⟩) 0 E U = some (.go up) ∧ Bits names.length up (fun a b => a = b ∨ ed names E a b) ∧ ∀ e, e ∈ E → e.Low ∈ names ∧ e.High ∈ names) ∨
 ∃ L, forL (lattice_Lattice_edges.b5 k ⟨names, atL 0 names, U, D, J, M⟩) 0 E U = some (.ret (11, L)) ∧ ∃ e, e ∈ E ∧ (e.Low ∉ names ∨ e.High ∉ names) := by
 rcases forL_spec (body := lattice_Lattice_edges.b5 k ⟨names, atL 0 names, U, D, J, M⟩) (xs := E) (s := U)
  (fun j up => Bits names.length up (fun a b => a = b ∨ ed names (E.take j) a b) ∧ ∀ e, e ∈ E.take j → e.Low ∈ names ∧ e.High ∈ names)
  (fun r => r.1 = 11 ∧ ∃ e, e ∈ E ∧ (e.Low ∉ names ∨ e.High ∉ names)) ⟨hU.congr fun a b _ => by simp [ed], by simp⟩ (by
   rintro j e up he ⟨h1, h2⟩
   unfold lattice_Lattice_edges.b5
   simp only
   cases hl : mget (atL 0 names) e.Low with
   | none =>
    right
    exact ⟨_, rfl, rfl, e, List.mem_of_getElem? he, .inl ((at_none _ _ _).1 hl)⟩
   | some v =>
    cases hh : mget (atL 0 names) e.High with
    | none =>
     right
     exact ⟨_, rfl, rfl, e, List.mem_of_getElem? he, .inr ((at_none _ _ _).1 hh)⟩
    | some v' =>
     left
     obtain ⟨i, rfl, hi⟩ := at_some _ _ _ _ hl
     obtain ⟨i', rfl, hi'⟩ := at_some _ _ _ _ hh
     have hin : i < names.length := (List.getElem?_eq_some_iff.1 hi).1
     have hin' : i' < names.length := (List.getElem?_eq_some_iff.1 hi').1
     obtain ⟨m, g1, g2, g3⟩ := h1.bits i hin
     have hb := h1.orr hn hin g1 (m' := 2 ^ i') (Nat.pow_lt_pow_right (by omega) hin')
     refine ⟨_, by simp only [Nat.zero_add, Option.isSome_some, Bool.not_true, cond_false, Option.bind_some, Option.getD_some, getO_nat, g1, shl_one (show i' < 32 by omega)]; rfl, ?_, ?_⟩
     · refine hb.congr fun a b ha => ?_
       rw [Nat.testBit_two_pow, take_succ he]
       constructor
       · rintro ((h | ⟨e', h3, h4⟩) | ⟨rfl, h⟩)
         · exact .inl h
         · exact .inr ⟨e', List.mem_append_left _ h3, h4⟩
         · simp at h; subst h; exact .inr ⟨e, List.mem_append_right _ List.mem_cons_self, hi, hi'⟩
       · rintro (h | ⟨e', h3, h4, h5⟩)
         · exact .inl (.inl h)
         · rcases List.mem_append.1 h3 with h3 | h3
           · exact .inl (.inr ⟨e', h3, h4, h5⟩)
           · have : e' = e := by simpa using h3
             subst this
             exact .inr ⟨hd _ _ _ h4 hi, by simp [hd _ _ _ h5 hi']⟩
     · intro e' h3
       rw [take_succ he] at h3
       rcases List.mem_append.1 h3 with h3 | h3
       · exact h2 e' h3
       · have : e' = e := by simpa using h3
         subst this
         exact ⟨List.mem_of_getElem? hi, List.mem_of_getElem? hi'⟩) with ⟨up, h1, h2, h3⟩ | ⟨r, h1, h2, h3⟩
 · exact .inl ⟨up, h1, by simpa using h2, by simpa using h3⟩
 · right
   obtain ⟨a, L⟩ := r
   simp only at h2
   subst h2
   exact ⟨L, h1, h3⟩
def total (l : List Int) : Nat := (l.map Int.toNat).sum
theorem total_set : ∀ (l : List Int) (i : Nat) (m m' : Nat), l[i]? = some (m : Int) → m < m' → total l < total (l.set i (m' : Int))
 | [], i, m, m', h, _ => by simp at h
 | x :: l, 0, m, m', h, hm => by simp at h; subst h; simp [total]; exact hm
 | x :: l, i + 1, m, m', h, hm => by
  have := total_set l i m m' (by simpa using h) hm
  simp only [total, List.set_cons_succ, List.map_cons, List.sum_cons] at this ⊢
  omega
theorem total_le {n : Nat} {up : List Int} {r : Nat → Nat → Prop} (h : Bits n up r) : total up ≤ n * 2 ^ n := by
 have key : ∀ (l : List Int), (∀ x, x ∈ l → x.toNat ≤ 2 ^ n) → total l ≤ l.length * 2 ^ n := by
  intro l
  induction l with
  | nil => intro _; simp [total]
  | cons x l ih =>
   intro hx
   have h1 := ih fun y hy => hx y (List.mem_cons_of_mem _ hy)
   have h2 := hx x List.mem_cons_self
   simp only [total, List.map_cons, List.sum_cons, List.length_cons] at h1 ⊢
   rw [Nat.succ_mul]; omega
 have := key up fun x hx => by
  obtain ⟨a, ha, rfl⟩ := List.mem_iff_getElem.1 hx
  obtain ⟨m, h1, h2, _⟩ := h.bits a (by rw [← h.len]; exact ha)
  rw [List.getElem?_eq_getElem ha] at h1
  simp only [Option.some.injEq] at h1
  rw [h1]; simp; omega
 rw [h.len] at this
 exact this
theorem le_of_bits {m m' : Nat} (h : ∀ b, m.testBit b = true → m'.testBit b = true) : m ≤ m' := by
 have : m ||| m' = m' := Nat.eq_of_testBit_eq fun b => by
  rw [Nat.testBit_or]
  cases e : m.testBit b with
  | false => simp
  | true => simp [h b e]
 rw [← this]; exact Nat.left_le_or
theorem edges_b4 (k : Nat) (hn : n ≤ 16) {s : List Int} {r : Nat → Nat → Prop} (hs : Bits n s r) {i m : Nat} (hi : i < n) (hm : s[i]? = some (m : Int)) :
 ∃ u, forL (lattice_Lattice_edges.b4 k (m : Int) i) 0 s s = some (.go u) ∧ Bits n u (fun a c => r a c ∨ (a = i ∧ ∃ b, r i b ∧ r b c)) ∧ ∃ m' : Nat, u = s.set i (m' : Int) := by
 obtain ⟨q, q1, q2, q3⟩ := hs.bits i hi
 have hq : q = m := by rw [hm] at q1; simp only [Option.some.injEq] at q1; omega
 subst hq
 obtain ⟨u, h1, h2, h3⟩ := forL_end (body := lattice_Lattice_edges.b4 k (q : Int) i) (xs := s) (s := s)
  (fun j u => Bits n u (fun a c => r a c ∨ (a = i ∧ ∃ b, b < j ∧ r i b ∧ r b c)) ∧ ∃ m' : Nat, u = s.set i (m' : Int)) ⟨hs.congr fun a b _ => by simp, q, by
   apply List.ext_getElem?
   intro j
   by_cases e : j = i
   · subst e; rw [List.getElem?_set_self (by rw [hs.len]; exact hi), hm]
   · rw [List.getElem?_set_ne (fun h => e h.symm)]⟩ (by
   rintro j x u hx ⟨g1, m', g2⟩
   have hj : j < n := by rw [← hs.len]; exact (List.getElem?_eq_some_iff.1 hx).1
   unfold lattice_Lattice_edges.b4
   rw [has_nat k (lt_u32 hn q2) (show j < 32 by omega), Option.bind_some]
   cases hb : q.testBit j with
   | false =>
    refine ⟨u, by simp only [cond_false, Option.bind_some], g1.congr fun a c _ => ?_, m', g2⟩
    constructor
    · rintro (h | ⟨h, b, h3, h4⟩)
      · exact .inl h
      · exact .inr ⟨h, b, by omega, h4⟩
    · rintro (h | ⟨h, b, h3, h4, h5⟩)
      · exact .inl h
      · rcases Nat.lt_or_ge b j with h6 | h6
        · exact .inr ⟨h, b, h6, h4, h5⟩
        · have : b = j := by omega
          subst this
          rw [(q3 b).2 h4] at hb; cases hb
   | true =>
    obtain ⟨p, p1, p2, p3⟩ := g1.bits i hi
    obtain ⟨p', p1', p2', p3'⟩ := g1.bits j hj
    have ho := g1.orr hn hi p1 p2'
    have hrj : r i j := (q3 j).1 hb
    refine ⟨_, by simp only [cond_true, getO_nat, p1, p1', Option.bind_some], ho.congr fun a c ha => ?_, ?_⟩
    · constructor
      · rintro ((h | ⟨h, b, h3, h4⟩) | ⟨rfl, h⟩)
        · exact .inl h
        · exact .inr ⟨h, b, by omega, h4⟩
        · rcases (p3' c).1 h with h | ⟨rfl, b, h3, h4⟩
          · exact .inr ⟨rfl, j, by omega, hrj, h⟩
          · exact .inr ⟨rfl, b, by omega, h4⟩
      · rintro (h | ⟨rfl, b, h3, h4, h5⟩)
        · exact .inl (.inl h)
        · rcases Nat.lt_or_ge b j with h6 | h6
          · exact .inl (.inr ⟨rfl, b, h6, h4, h5⟩)
          · have : b = j := by omega
            subst this
            exact .inr ⟨rfl, (p3' c).2 (.inl h5)⟩
    · rw [or_u32 (lt_u32 hn p2) (lt_u32 hn p2'), setO_nat, g2]
      exact ⟨_, by rw [List.set_set]⟩)
 refine ⟨u, h1, h2.congr fun a c _ => ?_, h3⟩
 constructor
 · rintro (h | ⟨h, b, _, h4⟩)
   · exact .inl h
   · exact .inr ⟨h, b, h4⟩
 · rintro (h | ⟨h, b, h4⟩)
   · exact .inl h
   · exact .inr ⟨h, b, by rw [hs.len]; exact hs.lt hi h4.1, h4⟩
theorem edges_b3 (k : Nat) (hn : n ≤ 16) {s : List Int} {r : Nat → Nat → Prop} (hs : Bits n s r) :
 (forL (lattice_Lattice_edges.b3 k) 0 s s = some (.go s) ∧ ∀ a b c, a < n → r a b → r b c → r a c) ∨
 ∃ (u : List Int) (i : Nat), forL (lattice_Lattice_edges.b3 k) 0 s s = some (.ret (.next u)) ∧ total s < total u ∧ i < n ∧ Bits n u (fun a c => r a c ∨ (a = i ∧ ∃ b, r i b ∧ r b c)) := by
 rcases forL_spec (body := lattice_Lattice_edges.b3 k) (xs := s) (s := s)
  (fun j t => t = s ∧ ∀ a b c, a < j → r a b → r b c → r a c)
  (fun x => ∃ (u : List Int) (i : Nat), x = .next u ∧ total s < total u ∧ i < n ∧ Bits n u (fun a c => r a c ∨ (a = i ∧ ∃ b, r i b ∧ r b c))) ⟨rfl, fun a b c h => absurd h (Nat.not_lt_zero _)⟩ (by
   rintro j x t hx ⟨rfl, h2⟩
   have hj : j < n := by rw [← hs.len]; exact (List.getElem?_eq_some_iff.1 hx).1
   obtain ⟨m, m1, m2, m3⟩ := hs.bits j hj
   obtain ⟨u, u1, u2, m', u3⟩ := edges_b4 k hn hs hj m1
   have hu : u[j]? = some (m' : Int) := by rw [u3, List.getElem?_set_self (by rw [hs.len]; exact hj)]
   have hm' : ∀ b, m'.testBit b = true ↔ r j b ∨ ∃ c, r j c ∧ r c b := by
    obtain ⟨q, q1, q2, q3⟩ := u2.bits j hj
    have : q = m' := by rw [hu] at q1; simp only [Option.some.injEq] at q1; omega
    subst this
    intro b; rw [q3]; simp
   unfold lattice_Lattice_edges.b3
   simp only [getO_nat, m1, u1, hu, Option.bind_some, Lr.k]
   by_cases e : (m' : Int) = (m : Int)
   · left
     have hmm : m' = m := by omega
     subst hmm
     have hcl : ∀ b c, r j b → r b c → r j c := fun b c h3 h4 => (m3 c).1 ((hm' c).2 (.inr ⟨b, h3, h4⟩))
     have hut : u = t := u2.uniq (hs.congr fun a c _ => ⟨.inl, fun h => h.elim id fun ⟨h1, b, h3, h4⟩ => by subst h1; exact hcl b c h3 h4⟩)
     refine ⟨t, by simp [hut], rfl, fun a b c ha h3 h4 => ?_⟩
     rcases Nat.lt_or_ge a j with h5 | h5
     · exact h2 a b c h5 h3 h4
     · have : a = j := by omega
       subst this
       exact hcl b c h3 h4
   · right
     refine ⟨_, by simp only [decide_eq_false e, Bool.not_false, cond_true], u, j, rfl, ?_, hj, u2⟩
     rw [u3]
     refine total_set t j m m' m1 ?_
     have := le_of_bits (m := m) (m' := m') fun b hb => (hm' b).2 (.inl ((m3 b).1 hb))
     omega) with ⟨t, h1, rfl, h3⟩ | ⟨x, h1, u, i, rfl, h3⟩
 · exact .inl ⟨h1, fun a b c ha => h3 a b c (by rw [hs.len]; exact ha)⟩
 · exact .inr ⟨u, i, h1, h3⟩
theorem edges_b1 (k : Nat) (hn : n ≤ 16) {s d : List Int} {r : Nat → Nat → Prop} (hs : Bits n s r) (hd : Bits n d (fun a b => a = b)) (hr : ∀ a, a < n → r a a) :
 ∃ d', forL (lattice_Lattice_edges.b1 k) 0 s (s, d) = some (.go (s, d')) ∧ Bits n d' (fun b a => a < n ∧ r a b) := by
 obtain ⟨⟨s', d'⟩, h1, rfl, h3⟩ := forL_end (body := lattice_Lattice_edges.b1 k) (xs := s) (s := (s, d))
  (fun j t => t.1 = s ∧ Bits n t.2 (fun b a => a = b ∨ (a < j ∧ r a b))) ⟨rfl, hd.congr fun a b _ => by simp [eq_comm]⟩ (by
   rintro j x ⟨s', d'⟩ hx ⟨rfl, h2⟩
   have hj : j < n := by rw [← hs.len]; exact (List.getElem?_eq_some_iff.1 hx).1
   obtain ⟨m, m1, m2, m3⟩ := hs.bits j hj
   unfold lattice_Lattice_edges.b1
   obtain ⟨⟨s2, d2⟩, g1, rfl, g3⟩ := forL_end (body := lattice_Lattice_edges.b2 k j) (xs := s') (s := (s', d'))
    (fun i t => t.1 = s' ∧ Bits n t.2 (fun b a => a = b ∨ (a < j ∧ r a b) ∨ (a = j ∧ b < i ∧ r a b))) ⟨rfl, h2.congr fun a b _ => by simp⟩ (by
     rintro i y ⟨s3, d3⟩ hy ⟨rfl, h3⟩
     have hi : i < n := by rw [← hs.len]; exact (List.getElem?_eq_some_iff.1 hy).1
     unfold lattice_Lattice_edges.b2
     simp only [getO_nat, m1, Option.bind_some, has_nat k (lt_u32 hn m2) (show i < 32 by omega)]
     cases hb : m.testBit i with
     | false =>
      refine ⟨_, rfl, rfl, h3.congr fun b a _ => ?_⟩
      constructor
      · rintro (h | h | ⟨h, h4, h5⟩)
        · exact .inl h
        · exact .inr (.inl h)
        · exact .inr (.inr ⟨h, by omega, h5⟩)
      · rintro (h | h | ⟨h, h4, h5⟩)
        · exact .inl h
        · exact .inr (.inl h)
        · rcases Nat.lt_or_ge b i with h6 | h6
          · exact .inr (.inr ⟨h, h6, h5⟩)
          · have : b = i := by omega
            subst this; subst h
            rw [(m3 b).2 h5] at hb; cases hb
     | true =>
      obtain ⟨p, p1, p2, p3⟩ := h3.bits i hi
      have ho := h3.orr hn hi p1 (m' := 2 ^ j) (Nat.pow_lt_pow_right (by omega) hj)
      refine ⟨_, by simp only [cond_true, p1, Option.bind_some, shl_one (show j < 32 by omega)]; rfl, rfl, ho.congr fun b a _ => ?_⟩
      rw [Nat.testBit_two_pow]
      constructor
      · rintro ((h | h | ⟨h, h4, h5⟩) | ⟨rfl, h⟩)
        · exact .inl h
        · exact .inr (.inl h)
        · exact .inr (.inr ⟨h, by omega, h5⟩)
        · simp at h; subst h; exact .inr (.inr ⟨rfl, by omega, (m3 b).1 hb⟩)
      · rintro (h | h | ⟨rfl, h4, h5⟩)
        · exact .inl (.inl h)
        · exact .inl (.inr (.inl h))
        · rcases Nat.lt_or_ge b i with h6 | h6
          · exact .inl (.inr (.inr ⟨rfl, h6, h5⟩))
          · have : b = i := by omega
            subst this
            exact .inr ⟨rfl, by simp⟩)
   refine ⟨(s2, d2), by simp only [g1, Option.bind_some, Lr.k], rfl, g3.congr fun b a hb => ?_⟩
   constructor
   · rintro (h | ⟨h, h4⟩ | ⟨rfl, h4, h5⟩)
     · exact .inl h
     · exact .inr ⟨by omega, h4⟩
     · exact .inr ⟨by omega, h5⟩
   · rintro (h | ⟨h, h4⟩)
     · exact .inl h
     · rcases Nat.lt_or_ge a j with h6 | h6
       · exact .inr (.inl ⟨h6, h4⟩)
       · have : a = j := by omega
         subst this
         exact .inr (.inr ⟨rfl, by have := hs.len; simp only at this ⊢; omega, h4⟩))
 refine ⟨d', h1, h3.congr fun b a hb => ?_⟩
 rw [hs.len]
 constructor
 · rintro (h | h)
   · subst h; exact ⟨hb, hr _ hb⟩
   · exact h
 · exact .inr
theorem edges_spec (k : Nat) (hk : 1048577 ≤ k) (hd : Apart names) (hn : names.length ≤ 16) :
 (∃ up dn, lattice_Lattice_edges k ⟨names, atL 0 names, pows names.length, pows names.length, J, M⟩ E = some (0, ⟨names, atL 0 names, up, dn, J, M⟩) ∧ Bits names.length up (Way names E) ∧ Bits names.length dn (fun a b => Way names E b a) ∧ ∀ e, e ∈ E → e.Low ∈ names ∧ e.High ∈ names) ∨
 ∃ L, lattice_Lattice_edges k ⟨names, atL 0 names, pows names.length, pows names.length, J, M⟩ E = some (11, L) ∧ ∃ e, e ∈ E ∧ (e.Low ∉ names ∨ e.High ∉ names) := by
 unfold lattice_Lattice_edges
 rcases edges_first (E := E) (J := J) (M := M) k hd hn (pows names.length) (pows names.length) (pows_bits _) with ⟨up, h1, h2, h3⟩ | ⟨L, h1, h2⟩
 · left
   have hlt : ∀ a b, ed names E a b → a < names.length := fun a b ⟨e, _, h, _⟩ => (List.getElem?_eq_some_iff.1 h).1
   obtain ⟨o, g1, u, d, rfl, g3, g4⟩ := whileL_spec (body := lattice_Lattice_edges.b0 k ⟨names, atL 0 names, pows names.length, pows names.length, J, M⟩)
    (fun s => ∃ r, Bits names.length s r ∧ (∀ a, a < names.length → r a a) ∧ (∀ a b, ed names E a b → r a b) ∧ ∀ a b, a < names.length → r a b → Way names E a b)
    (fun o => ∃ u d, o = .ret (0, ⟨names, atL 0 names, u, d, J, M⟩) ∧ Bits names.length u (Way names E) ∧ Bits names.length d (fun a b => Way names E b a))
    (fun s => names.length * 2 ^ names.length - total s) (by
     rintro s ⟨r, r1, r2, r3, r4⟩
     unfold lattice_Lattice_edges.b0
     rcases edges_b3 k hn r1 with ⟨q1, q2⟩ | ⟨u, i, q1, q2, hi, q3⟩
     · right; right
       obtain ⟨d', d1, d2⟩ := edges_b1 k hn r1 (pows_bits names.length) r2
       have hw : ∀ a b, a < names.length → (r a b ↔ Way names E a b) := fun a b ha => ⟨r4 a b ha, fun h => by
        induction h with
        | refl h => exact r2 a h
        | step h k' ih => exact q2 _ _ _ ha ih (r3 _ _ k')⟩
       refine ⟨_, by simp only [q1, Option.bind_some, Lr.k, d1], s, d', rfl, r1.congr fun a b ha => hw a b ha, d2.congr fun a b ha => ⟨fun h => r4 b a h.1 h.2, fun h => ?_⟩⟩
       have hb : b < names.length := by
        clear d2 d1 ha
        induction h with
        | refl h => exact h
        | step _ _ ih => exact ih
       exact ⟨hb, (hw b a hb).2 h⟩
     · left
       refine ⟨u, by simp only [q1, Option.bind_some, Lr.k], ⟨_, q3, fun a ha => .inl (r2 a ha), fun a b h => .inl (r3 a b h), ?_⟩, ?_⟩
       · rintro a b ha (h | ⟨rfl, c, h4, h5⟩)
         · exact r4 a b ha h
         · exact (r4 a c ha h4).trans (r4 c b (r1.lt ha h4) h5)
       · have := total_le q3
         omega) k up ⟨_, h2, fun a _ => .inl rfl, fun a b h => .inr h, fun a b ha h => by
          rcases h with rfl | h
          · exact .refl a ha
          · exact (Way.refl a ha).step h⟩ (by
     have h4 : names.length * 2 ^ names.length ≤ 16 * 2 ^ 16 := Nat.mul_le_mul hn (Nat.pow_le_pow_right (by omega) hn)
     have h5 : 16 * 2 ^ 16 = 1048576 := by decide
     omega)
   exact ⟨u, d, by simp only [h1, Option.bind_some, Lr.k, g1], g3, g4, h3⟩
 · exact .inr ⟨L, by simp only [h1, Option.bind_some, Lr.k], h2⟩
def fits (names : List ByteArray) (E : List TPair) : Prop := (∀ j x, names[j]? = some x → ¬ nmBad names j x) ∧ ∀ e, e ∈ E → e.Low ∈ names ∧ e.High ∈ names
def out (L : Tlattice_Lattice) (y : Bool × Tlattice_Lattice) : Option Tlattice_Lattice × Int := bif y.1 then (some ⟨L.names_, L.at_, L.up_, L.down_, y.2.join_, y.2.meet_⟩, 0) else (none, 12)
theorem new_spec (k : Nat) (hk : 1048577 ≤ k) (hn : names.length ≤ 16) (hE : E.length ≤ 64) :
 (fits names E ∧ ∃ up dn, Bits names.length up (Way names E) ∧ Bits names.length dn (fun a b => Way names E b a) ∧ lattice_New k names E = (lattice_Lattice_tables k ⟨names, atL 0 names, up, dn, [], []⟩).bind fun y => some (out ⟨names, atL 0 names, up, dn, [], []⟩ y)) ∨
 (¬ fits names E ∧ lattice_New k names E = some (none, 11)) := by
 have h16 : decide ((16 : Int) < (names.length : Int)) = false := decide_eq_false (by omega)
 have h64 : decide ((64 : Int) < (E.length : Int)) = false := decide_eq_false (by omega)
 have hcl : slices_Clone_string_string k names = some names := by
  unfold slices_Clone_string_string
  rw [lim_ok (by simp; omega)]; simp
 unfold lattice_New
 simp only [h16, h64, cond_false, Option.bind_some, hcl]
 rcases named_spec k names [] [] hn with ⟨h1, h2⟩ | ⟨L, h1, j, x, h2, h3⟩
 · rcases edges_spec (E := E) (J := []) (M := []) k hk (apart_of h2) hn with ⟨up, dn, g1, g2, g3, g4⟩ | ⟨L, g1, e, g2, g3⟩
   · left
     refine ⟨⟨h2, g4⟩, up, dn, g2, g3, ?_⟩
     simp only [h1, Option.bind_some, g1, decide_true, Bool.not_true, cond_false]
     congr 1
     funext y
     obtain ⟨b, L⟩ := y
     cases b <;> rfl
   · right
     refine ⟨fun h => ?_, ?_⟩
     · have := h.2 e g2
       rcases g3 with g3 | g3
       · exact g3 this.1
       · exact g3 this.2
     · simp only [h1, Option.bind_some, g1, decide_true, Bool.not_true, cond_false]
       rfl
 · right
   refine ⟨fun h => h.1 j x h2 h3, ?_⟩
   simp only [h1, Option.bind_some]
   rfl
end
end Go.Proofs.YtknhbphhdfknaaaGreatDoor
set_option linter.unusedVariables false
set_option linter.unusedSimpArgs false
namespace Go.Proofs.YtknhbphhdfknaaaGreatDoor
theorem least_spec (k : Nat) {n : Nat} (hn : n ≤ 16) {up : List Int} {r : Nat → Nat → Prop} (hu : Bits n up r) {S : Nat} (hS : S < 2 ^ n) :
 (∃ a : Nat, a < n ∧ lattice_least k (S : Int) up = some (a : Int) ∧ S.testBit a = true ∧ ∀ b, S.testBit b = true → r a b) ∨
 (lattice_least k (S : Int) up = some (-1) ∧ ∀ a, a < n → S.testBit a = true → ∃ b, S.testBit b = true ∧ ¬ r a b) := by
 unfold lattice_least
 rcases forL_spec (body := lattice_least.b0 k (S : Int)) (xs := up) (s := ()) (fun j _ => ∀ a, a < j → a < n → S.testBit a = true → ∃ b, S.testBit b = true ∧ ¬ r a b)
  (fun x => ∃ a : Nat, a < n ∧ x = (a : Int) ∧ S.testBit a = true ∧ ∀ b, S.testBit b = true → r a b) (fun a h => absurd h (Nat.not_lt_zero _)) (by
   rintro j x ⟨⟩ hx h
   have hj : j < n := by rw [← hu.len]; exact (List.getElem?_eq_some_iff.1 hx).1
   obtain ⟨m, m1, m2, m3⟩ := hu.bits j hj
   have hxm : x = (m : Int) := by rw [hx] at m1; simpa using m1
   subst hxm
   unfold lattice_least.b0
   rw [has_nat k (lt_u32 hn hS) (show j < 32 by omega), Option.bind_some]
   cases hb : S.testBit j with
   | false =>
    left
    refine ⟨(), by simp, fun a ha han hSa => ?_⟩
    rcases Nat.lt_or_ge a j with h1 | h1
    · exact h a h1 han hSa
    · have : a = j := by omega
      subst this
      rw [hSa] at hb; cases hb
   | true =>
    have hsub := andnot_u32 (lt_u32 hn hS) (lt_u32 hn m2)
    by_cases e : ∀ i, S.testBit i = true → m.testBit i = true
    · right
      refine ⟨_, by simp only [cond_true, Option.bind_some, decide_eq_true (hsub.2 e)], j, hj, rfl, hb, fun b hSb => (m3 b).1 (e b hSb)⟩
    · left
      have hne : ¬ _ := fun h0 => e (hsub.1 h0)
      refine ⟨(), by simp only [cond_true, Option.bind_some, decide_eq_false hne, cond_false], fun a ha han hSa => ?_⟩
      rcases Nat.lt_or_ge a j with h1 | h1
      · exact h a h1 han hSa
      · have : a = j := by omega
        subst this
        obtain ⟨b, hb2⟩ := Classical.not_forall.1 e
        obtain ⟨h2, h3⟩ := Classical.not_imp.1 hb2
        exact ⟨b, h2, fun hr => h3 ((m3 b).2 hr)⟩) with ⟨s, h1, h2⟩ | ⟨x, h1, a, h2, rfl, h3⟩
 · right
   exact ⟨by simp only [h1, Option.bind_some, Lr.k], fun a ha => h2 a (by rw [hu.len]; exact ha) ha⟩
 · left
   exact ⟨a, h2, by simp only [h1, Option.bind_some, Lr.k], h3⟩
def IsJoin (n : Nat) (r : Nat → Nat → Prop) (a b c : Nat) : Prop := c < n ∧ r a c ∧ r b c ∧ ∀ d, r a d → r b d → r c d
def IsMeet (n : Nat) (r : Nat → Nat → Prop) (a b c : Nat) : Prop := c < n ∧ r c a ∧ r c b ∧ ∀ d, d < n → r d a → r d b → r d c
theorem setA_at (xs : List Int) (i : Nat) (v : Int) (j : Nat) : (setA xs i v).getD j 0 = if i = j then v else xs.getD j 0 := by
 unfold setA
 split
 · rename_i h
   simp only [List.getD_eq_getElem?_getD, List.getElem?_set]
   split
   · subst_vars; simp [h]
   · rfl
 · rename_i h
   simp only [List.getD_eq_getElem?_getD]
   rcases Nat.lt_trichotomy j i with h1 | h1 | h1
   · rw [if_neg (by omega), List.getElem?_append_left (by simp; omega)]
     by_cases h2 : j < xs.length
     · rw [List.getElem?_append_left h2]
     · rw [List.getElem?_append_right (by omega), List.getElem?_eq_none (l := xs) (by omega)]
       simp [List.getElem?_replicate]
       split <;> rfl
   · subst h1
     rw [if_pos rfl, List.getElem?_append_right (by simp; omega)]
     simp [show j - (xs.length + (j - xs.length)) = 0 by omega]
   · rw [if_neg (by omega), List.getElem?_eq_none (by simp; omega), List.getElem?_eq_none (by omega)]
theorem Bits.m {n : Nat} {up : List Int} {r : Nat → Nat → Prop} (h : Bits n up r) {a : Nat} (ha : a < n) : ∃ m : Nat, up[a]? = some (m : Int) ∧ m < 2 ^ n ∧ ∀ b, m.testBit b = true ↔ r a b := h.bits a ha
def GoodJM (n : Nat) (r : Nat → Nat → Prop) (J M : List Int) (a b : Nat) : Prop := (a ≠ b → ¬ (r a b ∧ r b a)) ∧ (∃ c : Nat, J.getD (a * 16 + b) 0 = (c : Int) ∧ IsJoin n r a b c) ∧ (∃ c : Nat, M.getD (a * 16 + b) 0 = (c : Int) ∧ IsMeet n r a b c)
def Poor (n : Nat) (r : Nat → Nat → Prop) (a b : Nat) : Prop := (a ≠ b ∧ r a b ∧ r b a) ∨ (¬ ∃ c, IsJoin n r a b c) ∨ ¬ ∃ c, IsMeet n r a b c
theorem place_inj {a b c d : Nat} (hb : b < 16) (hd : d < 16) (h : a * 16 + b = c * 16 + d) : a = c ∧ b = d := by omega
theorem GoodJM.set {n : Nat} {r : Nat → Nat → Prop} {J M : List Int} {a b i j : Nat} (h : GoodJM n r J M a b) (hb : b < 16) (hj : j < 16) (hne : ¬ (a = i ∧ b = j)) (x y : Int) : GoodJM n r (setA J (i * 16 + j) x) (setA M (i * 16 + j) y) a b := by
 have : ¬ i * 16 + j = a * 16 + b := fun e => hne (by have := place_inj hb hj e.symm; exact this)
 unfold GoodJM at *
 rw [setA_at, setA_at, if_neg this, if_neg this]; exact h
section
variable {n : Nat} {names : List ByteArray} {at_ : List (ByteArray × Int)} {up dn : List Int} {r : Nat → Nat → Prop} {J0 M0 : List Int}
theorem tables_b1 (k : Nat) (hn : n ≤ 16) (hu : Bits n up r) (hd : Bits n dn (fun a b => r b a)) {i j : Nat} (hi : i < n) (hj : j < n) (x : ByteArray) (J M : List Int) :
 (∃ c c' : Nat, lattice_Lattice_tables.b1 k i ⟨names, at_, up, dn, J0, M0⟩ j x (J, M) = some (.next (setA J (i * 16 + j) (c : Int), setA M (i * 16 + j) (c' : Int))) ∧ (i ≠ j → ¬ (r i j ∧ r j i)) ∧ IsJoin n r i j c ∧ IsMeet n r i j c') ∨
 (∃ L, lattice_Lattice_tables.b1 k i ⟨names, at_, up, dn, J0, M0⟩ j x (J, M) = some (.ret (false, L)) ∧ Poor n r i j) := by
 obtain ⟨m, m1, m2, m3⟩ := hu.m hi
 obtain ⟨m', m1', m2', m3'⟩ := hu.m hj
 obtain ⟨p, p1, p2, p3⟩ := hd.m hi
 obtain ⟨p', p1', p2', p3'⟩ := hd.m hj
 unfold lattice_Lattice_tables.b1
 simp only [getO_nat, m1, m1', p1, p1', Option.bind_some, has_nat k (lt_u32 hn m2) (show j < 32 by omega), has_nat k (lt_u32 hn m2') (show i < 32 by omega)]
 by_cases hanti : i ≠ j ∧ r i j ∧ r j i
 · right
   have h1 : decide ((i : Int) = (j : Int)) = false := decide_eq_false (by omega)
   refine ⟨_, by simp only [h1, Bool.not_false, cond_true, (m3 j).2 hanti.2.1, (m3' i).2 hanti.2.2, Option.bind_some]; rfl, .inl hanti⟩
 · have hfirst : (bif !decide ((i : Int) = (j : Int)) then (bif m.testBit j then some (m'.testBit i) else some false) else some false) = some false := by
    by_cases h1 : i = j
    · subst h1; simp
    · have h2 : decide ((i : Int) = (j : Int)) = false := decide_eq_false (by omega)
      rw [h2]
      cases h3 : m.testBit j with
      | false => rfl
      | true => cases h4 : m'.testBit i with
       | false => rfl
       | true => exact absurd ⟨h1, (m3 j).1 h3, (m3' i).1 h4⟩ hanti
   have hbits : ∀ b, (m &&& m').testBit b = true ↔ r i b ∧ r j b := fun b => by rw [Nat.testBit_and, Bool.and_eq_true, m3, m3']
   have hbits' : ∀ b, (p &&& p').testBit b = true ↔ r b i ∧ r b j := fun b => by rw [Nat.testBit_and, Bool.and_eq_true, p3, p3']
   simp only [hfirst, Option.bind_some, cond_false, and_u32 (lt_u32 hn m2) (lt_u32 hn m2'), and_u32 (lt_u32 hn p2) (lt_u32 hn p2')]
   have hj1 : inB 16 (i : Int) = some () := by unfold inB; rw [if_pos (by omega)]
   have hj2 : inB 16 (j : Int) = some () := by unfold inB; rw [if_pos (by omega)]
   rcases least_spec k hn hu (S := m &&& m') (Nat.and_lt_two_pow m m2') with ⟨c, c1, c2, c3, c4⟩ | ⟨c2, c3⟩
   · rcases least_spec k hn hd (S := p &&& p') (Nat.and_lt_two_pow p p2') with ⟨d, d1, d2, d3, d4⟩ | ⟨d2, d3⟩
     · left
       have hc0 : decide ((c : Int) < 0) = false := decide_eq_false (by omega)
       have hd0 : decide ((d : Int) < 0) = false := decide_eq_false (by omega)
       refine ⟨c, d, ?_, fun hne hr => hanti ⟨hne, hr⟩, ⟨c1, ((hbits c).1 c3).1, ((hbits c).1 c3).2, fun e h1 h2 => c4 e ((hbits e).2 ⟨h1, h2⟩)⟩, ⟨d1, ((hbits' d).1 d3).1, ((hbits' d).1 d3).2, fun e _ h1 h2 => d4 e ((hbits' e).2 ⟨h1, h2⟩)⟩⟩
       simp only [c2, d2, Option.bind_some, hc0, hd0, cond_false, hj1, hj2, Int.toNat_natCast, Nat.mul_one]
     · right
       have hc0 : decide ((c : Int) < 0) = false := decide_eq_false (by omega)
       refine ⟨_, by simp only [c2, d2, Option.bind_some, hc0, cond_false]; rfl, .inr (.inr ?_)⟩
       rintro ⟨e, e1, e2, e3, e4⟩
       obtain ⟨b, b1, b2⟩ := d3 e e1 ((hbits' e).2 ⟨e2, e3⟩)
       have := (hbits' b).1 b1
       exact b2 (e4 b (hd.lt hi this.1) this.1 this.2)
   · right
     refine ⟨⟨names, at_, up, dn, J, M⟩, ?_, .inr (.inl ?_)⟩
     · rcases least_spec k hn hd (S := p &&& p') (Nat.and_lt_two_pow p p2') with ⟨d, d1, d2, _⟩ | ⟨d2, _⟩
       · simp only [c2, d2, Option.bind_some]; rfl
       · simp only [c2, d2, Option.bind_some]; rfl
     · rintro ⟨e, e1, e2, e3, e4⟩
       obtain ⟨b, b1, b2⟩ := c3 e e1 ((hbits e).2 ⟨e2, e3⟩)
       have := (hbits b).1 b1
       exact b2 (e4 b this.1 this.2)
theorem tables_spec (k : Nat) (hn : n ≤ 16) (hl : names.length = n) (hu : Bits n up r) (hd : Bits n dn (fun a b => r b a)) :
 (∃ J M, lattice_Lattice_tables k ⟨names, at_, up, dn, J0, M0⟩ = some (true, ⟨names, at_, up, dn, J, M⟩) ∧ 0 < n ∧ ∀ a b, a < n → b < n → GoodJM n r J M a b) ∨
 (∃ L, lattice_Lattice_tables k ⟨names, at_, up, dn, J0, M0⟩ = some (false, L) ∧ (n = 0 ∨ ∃ a b, a < n ∧ b < n ∧ Poor n r a b)) := by
 unfold lattice_Lattice_tables
 rcases forL_spec (body := lattice_Lattice_tables.b0 k ⟨names, at_, up, dn, J0, M0⟩) (xs := names) (s := (J0, M0))
  (fun i s => ∀ a b, a < i → b < n → GoodJM n r s.1 s.2 a b) (fun x => ∃ L, x = (false, L) ∧ ∃ a b, a < n ∧ b < n ∧ Poor n r a b) (fun a b h => absurd h (Nat.not_lt_zero _)) (by
   rintro i x ⟨J, M⟩ hx hP
   have hi : i < n := by rw [← hl]; exact (List.getElem?_eq_some_iff.1 hx).1
   unfold lattice_Lattice_tables.b0
   rcases forL_spec (body := lattice_Lattice_tables.b1 k i ⟨names, at_, up, dn, J0, M0⟩) (xs := names) (s := (J, M))
    (fun j s => ∀ a b, (a < i ∧ b < n) ∨ (a = i ∧ b < j) → GoodJM n r s.1 s.2 a b) (fun x => ∃ L, x = (false, L) ∧ ∃ a b, a < n ∧ b < n ∧ Poor n r a b) (fun a b h => by
     rcases h with h | h
     · exact hP a b h.1 h.2
     · exact absurd h.2 (Nat.not_lt_zero _)) (by
     rintro j y ⟨J1, M1⟩ hy hP1
     have hj : j < n := by rw [← hl]; exact (List.getElem?_eq_some_iff.1 hy).1
     rcases tables_b1 (names := names) (at_ := at_) (J0 := J0) (M0 := M0) k hn hu hd hi hj y J1 M1 with ⟨c, c', h1, h2, h3, h4⟩ | ⟨L, h1, h2⟩
     · left
       refine ⟨_, h1, fun a b hab => ?_⟩
       by_cases e : a = i ∧ b = j
       · obtain ⟨rfl, rfl⟩ := e
         exact ⟨h2, ⟨c, by rw [setA_at, if_pos rfl], h3⟩, ⟨c', by rw [setA_at, if_pos rfl], h4⟩⟩
       · have hb : b < n := by
          rcases hab with h | h
          · exact h.2
          · omega
         refine GoodJM.set (hP1 a b ?_) (by omega) (by omega) e _ _
         rcases hab with h | h
         · exact .inl h
         · exact .inr ⟨h.1, by
            rcases Nat.lt_or_ge b j with h5 | h5
            · exact h5
            · exact absurd ⟨h.1, by omega⟩ e⟩
     · exact .inr ⟨_, h1, L, rfl, i, j, hi, hj, h2⟩) with ⟨⟨J1, M1⟩, h1, h2⟩ | ⟨y, h1, h2⟩
   · left
     refine ⟨(J1, M1), by simp only [h1, Option.bind_some, Lr.k], fun a b ha hb => h2 a b ?_⟩
     rcases Nat.lt_or_ge a i with h | h
     · exact .inl ⟨h, hb⟩
     · exact .inr ⟨by omega, by rw [hl]; exact hb⟩
   · right
     exact ⟨y, by simp only [h1, Option.bind_some, Lr.k], h2⟩) with ⟨⟨J, M⟩, h1, h2⟩ | ⟨y, h1, L, rfl, h2⟩
 · simp only [h1, Option.bind_some, Lr.k, hl]
   rcases Nat.eq_zero_or_pos n with h0 | h0
   · right
     refine ⟨_, by rw [decide_eq_false (by omega)], .inl h0⟩
   · left
     exact ⟨J, M, by rw [decide_eq_true (by omega)], h0, fun a b ha hb => h2 a b (by rw [hl]; exact ha) hb⟩
 · right
   exact ⟨L, by simp only [h1, Option.bind_some, Lr.k], .inr h2⟩
end
end Go.Proofs.YtknhbphhdfknaaaGreatDoor
set_option linter.unusedVariables false
set_option linter.unusedSimpArgs false
namespace Go.Proofs.YtknhbphhdfknaaaGreatDoor
structure Lat (n : Nat) (r : Nat → Nat → Prop) (L : Tlattice_Lattice) : Prop where
 small : n ≤ 16
 pos : 0 < n
 names : L.names_.length = n
 up : Bits n L.up_ r
 down : Bits n L.down_ (fun a b => r b a)
 good : ∀ a b, a < n → b < n → GoodJM n r L.join_ L.meet_ a b
section
variable {n : Nat} {r : Nat → Nat → Prop} {L : Tlattice_Lattice}
theorem is_in (k : Nat) (h : Lat n r L) {a : Nat} (ha : a < n) : lattice_Lattice_is k (some L) (a : Int) = some true := by
 unfold lattice_Lattice_is
 have := h.names
 simp [optE]
 omega
theorem leq_in (k : Nat) (h : Lat n r L) {a b : Nat} (ha : a < n) (hb : b < n) : ∃ v : Bool, lattice_Lattice_Leq k (some L) (a : Int) (b : Int) = some v ∧ (v = true ↔ r a b) := by
 obtain ⟨m, m1, m2, m3⟩ := h.up.bits a ha
 have hn := h.small
 refine ⟨m.testBit b, ?_, m3 b⟩
 unfold lattice_Lattice_Leq
 simp only [is_in k h ha, is_in k h hb, Option.bind_some, cond_true, optE, getO_nat, m1, has_nat k (lt_u32 hn m2) (show b < 32 by omega)]
end
theorem new_all (k : Nat) (hk : 1048577 ≤ k) (names : List ByteArray) (E : List TPair) (hn : names.length ≤ 16) (hE : E.length ≤ 64) :
 (∃ L, lattice_New k names E = some (some L, 0) ∧ Lat names.length (Way names E) L ∧ L.names_ = names ∧ L.at_ = atL 0 names ∧ fits names E) ∨
 (lattice_New k names E = some (none, 12) ∧ fits names E ∧ (names.length = 0 ∨ ∃ a b, a < names.length ∧ b < names.length ∧ Poor names.length (Way names E) a b)) ∨
 (lattice_New k names E = some (none, 11) ∧ ¬ fits names E) := by
 rcases new_spec k hk hn hE with ⟨hf, up, dn, h1, h2, h3⟩ | ⟨hf, h1⟩
 · rcases tables_spec (names := names) (at_ := atL 0 names) (J0 := []) (M0 := []) k hn rfl h1 h2 with ⟨J, M, g1, g2, g3⟩ | ⟨L, g1, g2⟩
   · left
     refine ⟨_, by rw [h3, g1]; rfl, ⟨hn, g2, rfl, h1, h2, g3⟩, rfl, rfl, hf⟩
   · right; left
     exact ⟨by rw [h3, g1]; rfl, hf, g2⟩
 · exact .inr (.inr ⟨h1, hf⟩)
theorem new_many (k : Nat) (names : List ByteArray) (E : List TPair) (h : 16 < names.length ∨ 64 < E.length) : lattice_New k names E = some (none, 8) := by
 unfold lattice_New
 by_cases h1 : 16 < names.length
 · rw [decide_eq_true (show (16 : Int) < (names.length : Int) by omega)]; rfl
 · have h2 : 64 < E.length := h.resolve_left h1
   rw [decide_eq_false (show ¬ (16 : Int) < (names.length : Int) by omega), decide_eq_true (show (64 : Int) < (E.length : Int) by omega)]; rfl
end Go.Proofs.YtknhbphhdfknaaaGreatDoor
set_option linter.unusedVariables false
set_option linter.unusedSimpArgs false
namespace Go.Proofs.YtknhbphhdfknaaaGreatDoor
section
variable {n : Nat} {r : Nat → Nat → Prop} {L : Tlattice_Lattice}
theorem ne0 {P : Prop} {e : Int} (h : e = 0) (he : e ≠ 0 := by simp) : P := absurd h he
theorem is_tot (k : Nat) (h : Lat n r L) (a : Int) : Tot (lattice_Lattice_is k (some L) a) fun b => b = true → 0 ≤ a ∧ a < n := by
 unfold lattice_Lattice_is
 refine Tot.bind (Tot.not (fun _ => Tot.dec (fun h0 => Tot.optE rfl (Tot.ret (Tot.ret fun hb => ?_))) (fun _ => Tot.ret (Tot.ret (by simp)))) (fun h => by simp at h))
 have := of_decide_eq_true hb
 rw [h.names] at this
 exact ⟨h0, this⟩
theorem leq_tot (k : Nat) (h : Lat n r L) (a b : Int) : Tot (lattice_Lattice_Leq k (some L) a b) fun _ => True := by
 obtain ⟨x, hx, hx'⟩ := is_tot k h a
 obtain ⟨y, hy, hy'⟩ := is_tot k h b
 cases x
 · unfold lattice_Lattice_Leq; rw [hx]; exact ⟨false, rfl, trivial⟩
 · cases y
   · unfold lattice_Lattice_Leq; rw [hx, Option.bind_some, hy]; exact ⟨false, rfl, trivial⟩
   · obtain ⟨a1, a2⟩ := hx' rfl
     obtain ⟨b1, b2⟩ := hy' rfl
     obtain ⟨v, hv, _⟩ := leq_in k h (a := a.toNat) (b := b.toNat) (by omega) (by omega)
     rw [Int.toNat_of_nonneg a1, Int.toNat_of_nonneg b1] at hv
     exact ⟨v, hv, trivial⟩
theorem find_eq (k : Nat) (L : Tlattice_Lattice) (s : ByteArray) : lattice_Lattice_Find k (some L) s = some ((mget L.at_ s).getD 0, (mget L.at_ s).isSome) := rfl
theorem find_tot (k : Nat) (L : Tlattice_Lattice) (s : ByteArray) : Tot (lattice_Lattice_Find k (some L) s) fun _ => True := ⟨_, find_eq k L s, trivial⟩
theorem levels_tot (k : Nat) {c : Tschema_Catalog} (hc : c.lattice_ = some L) (t : TTable) (b : TRelation) (hl : t.Cols.length = b.Cols.length) : Tot (schema_Catalog_levels k c t b) fun r => r.1 = 0 → r.2.2.Cols.length = b.Cols.length := by
 unfold schema_Catalog_levels
 rw [hc]
 refine Tot.to (find_tot k L _) fun d _ => Tot.not (fun _ => Tot.ret (fun _ => rfl)) (fun _ => Tot.bind (Tot.forL (fun _ (f : List TField) => f.length = b.Cols.length) rfl ?_ fun f hf => Tot.ret fun _ => hf))
 intro j x f hx hf
 unfold schema_Catalog_levels.b0
 rw [hc]
 have hj : j < t.Cols.length := (List.getElem?_eq_some_iff.1 hx).1
 refine Tot.to (find_tot k L _) fun d' _ => Tot.not (fun _ => Tot.ret (Tot.ret (fun h => ne0 h))) (fun _ => Tot.bind (Tot.getO (by omega) (by omega) fun y _ => Tot.ret ?_))
 simpa [setO] using hf
theorem contains_tot (k : Nat) (l : List Int) (v : Int) : Tot (slices_Contains_int_int k l v) fun _ => True := by
 unfold slices_Contains_int_int slices_Index_int_int
 refine Tot.bind (Tot.bind (Tot.forL (fun _ _ => True) trivial (fun j x s _ _ => ?_) fun _ _ => Tot.ret (Tot.ret trivial)))
 unfold slices_Index_int_int.b0
 exact Tot.dec (fun _ => Tot.ret (Tot.ret (Tot.ret trivial))) (fun _ => Tot.ret trivial)
theorem key_tot (k : Nat) {c : Tschema_Catalog} (hc : c.lattice_ = some L) (h : Lat n r L) (t : TTable) (b : TRelation) (g : Places) (hg : ColsOk b.Cols.length g) (hb : b.Key = []) (ht : t.Key.length ≤ 1000) : Tot (schema_Catalog_key k c t b g) fun r => r.1 = 0 → r.2.2.Key.length ≤ 1000 := by
 unfold schema_Catalog_key
 refine Tot.bind (Tot.forL (fun j (d : List Int) => d.length ≤ j ∧ ∀ v, v ∈ d → 0 ≤ v ∧ v < b.Cols.length) (by rw [hb]; simp) ?_ ?_)
 · rintro j s d hs ⟨h1, h2⟩
   have hj : j < t.Key.length := (List.getElem?_eq_some_iff.1 hs).1
   unfold schema_Catalog_key.b1
   refine Tot.bind (Tot.not (fun _ => Tot.ret (Tot.ret (Tot.ret (fun h => ne0 h)))) (fun hm => Tot.to (contains_tot k _ _) fun f _ => Tot.ret (Tot.cond (fun _ => Tot.ret (Tot.ret (fun h => ne0 h))) (fun _ => Tot.bind (Tot.lim (by simp; omega) (Tot.ret ⟨by simp; omega, fun v hv => ?_⟩))))))
   rcases List.mem_append.1 hv with hv | hv
   · exact h2 v hv
   · obtain ⟨w, hw⟩ := Option.isSome_iff_exists.1 hm
     rw [hw, List.mem_singleton] at hv
     rw [hv]; exact hg _ _ hw
 · rintro d ⟨h1, h2⟩
   refine Tot.bind (Tot.forL (fun _ d' => d' = d) rfl ?_ ?_)
   · rintro j v d' hv rfl
     unfold schema_Catalog_key.b0
     have hj : j < d'.length := (List.getElem?_eq_some_iff.1 hv).1
     refine Tot.bind (Tot.getO (by omega) (by omega) fun e he => ?_)
     have := h2 e (List.mem_of_getElem? he)
     refine Tot.bind (Tot.getO this.1 this.2 fun f _ => ?_)
     rw [hc]
     exact Tot.to (leq_tot k h _ _) fun _ _ => Tot.not (fun _ => Tot.ret (Tot.ret (fun h => ne0 h))) (fun _ => Tot.ret rfl)
   · rintro d' rfl
     exact Tot.ret fun _ => by simp only []; omega
def WhenOk (w : List TExpr) : Prop := w = [] ∨ ∃ x cols, w = [x] ∧ Prd cols 40 x
theorem clone_expr (k : Nat) (l : List TExpr) (h : l.length ≤ 1000) : slices_Clone_api_Expr_api_Expr k l = some l := by
 unfold slices_Clone_api_Expr_api_Expr
 rw [show lim (([]:List TExpr).length + l.length) = some () from by unfold lim; rw [if_pos (by simp; omega)]]; simp
theorem hide_tot (k : Nat) (hk : 1000 ≤ k) {c : Tschema_Catalog} (hc : c.lattice_ = some L) (h : Lat n r L) (t : TTable) (b : TRelation) (g : Places) (hg : ColsOk b.Cols.length g) (hb : b.When = []) (ht : nodesL t.When ≤ 1000) : Tot (schema_Catalog_hide k c t b g) fun r => r.1 = 0 → WhenOk r.2.2.When := by
 unfold schema_Catalog_hide
 have no : ∀ e : Int, e ≠ 0 → Tot (some (e, c, b)) fun r => r.1 = 0 → WhenOk r.2.2.When := fun e he => Tot.ret fun h => absurd h he
 refine Tot.any (Tot.dec (fun _ => Tot.ret trivial) (fun _ => Tot.ret trivial)) fun m => Tot.cond (fun _ => Tot.ret fun _ => .inl hb) (fun _ => ?_)
 rw [hc]
 refine Tot.to (find_tot k L _) fun f _ => Tot.not (fun _ => no _ (by decide)) (fun _ => Tot.to (leq_tot k h _ _) fun o _ => Tot.not (fun _ => no _ (by decide)) (fun _ => Tot.ndec (fun _ => no _ (by decide)) (fun hl => Tot.bind (Tot.getO (by omega) (by omega) fun x hx => ?_))))
 obtain ⟨x', hx'⟩ : ∃ x', t.When = [x'] := by
  match t.When, hl with
  | [x'], _ => exact ⟨x', rfl⟩
 rw [hx'] at hx ht
 have hxe : x' = x := by simpa using hx
 subst hxe
 have hn : nodes x' ≤ 1000 := by simp only [nodesL] at ht; omega
 refine Tot.to (shape_tot g 40 k ⟨t.Name, g, some b, []⟩ x' (by omega) (by omega) rfl (by simp only [List.length_nil]; omega)) fun e he => ?_
 obtain ⟨⟨u1, u2⟩, hp⟩ := he
 refine Tot.not (fun _ => no _ (by decide)) (fun hs => ?_)
 have hprd := hp hs
 refine Tot.to (typeOf_tot (cols := g) (q := ⟨t.Name, g, some b, e.2.used_⟩) rfl rfl hg 40 k x' (by omega) hprd) fun ty _ => ?_
 refine Tot.any (Tot.ndec (fun _ => Tot.ret trivial) (fun _ => Tot.ret trivial)) fun l => Tot.cond (fun _ => no _ (by decide)) (fun _ => Tot.bind (Tot.forL (fun _ d' => d' = e.2.used_) rfl ?_ ?_))
 · rintro j v d' hv rfl
   unfold schema_Catalog_hide.b0
   have hj : j < e.2.used_.length := (List.getElem?_eq_some_iff.1 hv).1
   refine Tot.bind (Tot.getO (by omega) (by omega) fun w hw => ?_)
   rcases u2 w (List.mem_of_getElem? hw) with h1 | ⟨s, h1⟩
   · simp at h1
   · have := hg _ _ h1
     refine Tot.bind (Tot.getO this.1 this.2 fun f' _ => ?_)
     rw [hc]
     exact Tot.to (leq_tot k h _ _) fun _ _ => Tot.not (fun _ => Tot.ret (Tot.ret (fun h => ne0 h))) (fun _ => Tot.ret rfl)
 · rintro d' rfl
   rw [Lr.k, clone_expr k _ (by rw [hx']; simp)]
   exact Tot.ret fun _ => .inr ⟨x', g, hx', hprd⟩
def GoodT (t : TRelation) : Prop := WhenOk t.When ∧ t.Cols.length ≤ 40 ∧ t.Key.length ≤ 1000
theorem typed_tot (k : Nat) (t : TTable) : Tot (schema_Catalog_table_1 k (some t)) fun _ => True := by
 unfold schema_Catalog_table_1 schema_typed
 refine Tot.optE rfl (Tot.bind (Tot.bind (Tot.forL (fun _ _ => True) trivial (fun j x s _ _ => ?_) fun _ _ => Tot.ret (Tot.ret trivial))))
 unfold schema_typed.b0
 exact Tot.any (Tot.dec (fun _ => Tot.ret trivial) (fun _ => Tot.ret trivial)) fun b => Tot.cond (fun _ => Tot.ret (Tot.ret (Tot.ret trivial))) (fun _ => Tot.ret trivial)
theorem table_tot (k : Nat) (hk : 1000 ≤ k) {b : Tschema_Catalog} (hc : b.lattice_ = some L) (h : Lat n r L) (t : TTable) (ht : lightT t) (hb : b.tables_.length ≤ 1000) : Tot (schema_Catalog_table k b t) fun r => r.1 = 0 → ∃ x, r.2.tables_ = b.tables_ ++ [x] ∧ GoodT x := by
 unfold schema_Catalog_table
 have no : ∀ e : Int, ¬ e = 0 → Tot (some (e, b)) fun r => r.1 = 0 → ∃ x, r.2.tables_ = b.tables_ ++ [x] ∧ GoodT x := fun e he => Tot.ret fun h => absurd h he
 refine Tot.bind (Tot.dec (fun _ => Tot.ret (no _ (by decide))) (fun _ => Tot.ret (Tot.dec (fun _ => no _ (by decide)) (fun h40 => Tot.bind ?_))))
 refine Tot.cond (fun _ => Tot.ret (no _ (by decide))) (fun _ => Tot.ret (Tot.dec (fun _ => no _ (by decide)) (fun _ => Tot.bind ?_)))
 refine Tot.forL (fun j (s : List TField × Places) => s.1.length = j ∧ ColsOk j s.2) ⟨rfl, fun s v h => by simp [mget] at h⟩ ?_ ?_
 · rintro j x ⟨f, m⟩ hx ⟨g1, g2⟩
   have hj : j < t.Cols.length := (List.getElem?_eq_some_iff.1 hx).1
   dsimp only at g1 g2
   unfold schema_Catalog_table.b0
   refine Tot.any (Tot.cond (fun _ => Tot.ret trivial) (fun _ => Tot.ret trivial)) fun d => Tot.cond (fun _ => Tot.ret (no _ (by decide))) (fun _ => Tot.bind (Tot.lim (by simp; omega) (Tot.ret ⟨by simp [g1], fun s v hv => ?_⟩)))
   simp only [mget_mput] at hv
   split at hv
   · cases hv; omega
   · have := g2 s v hv; omega
 · rintro ⟨f, m⟩ ⟨g1, g2⟩
   dsimp only at g1 g2
   refine Tot.to (typed_tot k t) fun h1 _ => Tot.ndec (fun hh => no _ hh) (fun _ => ?_)
   refine Tot.to (levels_tot k hc t ⟨t.Name, 0, f, [], -1, []⟩ g1.symm) fun d hd => Tot.ndec (fun hh => no _ hh) (fun hd0 => ?_)
   have hdl : d.2.2.Cols.length = t.Cols.length := (hd hd0).trans g1
   refine Tot.to (key_tot k hc h t ⟨t.Name, d.2.2.Rows, d.2.2.Cols, [], -1, []⟩ m (by rw [hdl]; exact g2) rfl ht.1) fun e he => Tot.ndec (fun hh => no _ hh) (fun he0 => ?_)
   refine Tot.to (hide_tot k hk hc h t ⟨t.Name, d.2.2.Rows, d.2.2.Cols, e.2.2.Key, -1, []⟩ m (by rw [hdl]; exact g2) rfl ht.2) fun w hw => Tot.ndec (fun hh => no _ hh) (fun hw0 => ?_)
   exact Tot.bind (Tot.lim (by simp; omega) (Tot.ret fun _ => ⟨_, rfl, hw hw0, by simp only []; omega, he he0⟩))
end
end Go.Proofs.YtknhbphhdfknaaaGreatDoor
set_option linter.unusedVariables false
set_option linter.unusedSimpArgs false
namespace Go.Proofs.YtknhbphhdfknaaaGreatDoor
def okN (L : Tlattice_Lattice) (p : TPair) : Prop := (mget L.at_ p.High).isSome = true ∧ p.Low ≠ ⟨#[]⟩
def nm (L : Tlattice_Lattice) (p : TPair) : TNamed := ⟨p.Low, (mget L.at_ p.High).getD 0⟩
theorem has_tot (k : Nat) (l : List TNamed) (b : TPair) : Tot (slices_ContainsFunc_api_Named_api_Named k l (fun h => schema_Catalog_named_1 k h (some b))) fun r => r = true ↔ ∃ a, a ∈ l ∧ a.Name = b.Low := by
 unfold slices_ContainsFunc_api_Named_api_Named slices_IndexFunc_api_Named_api_Named
 refine Tot.bind (Tot.bind (Tot.forL (fun j _ => ∀ a, a ∈ l.take j → a.Name ≠ b.Low) (by simp) (fun j x s hx hs => ?_) fun _ hs => Tot.ret (Tot.ret ?_)))
 · unfold slices_IndexFunc_api_Named_api_Named.b0 schema_Catalog_named_1
   refine Tot.bind (Tot.optE rfl (Tot.ret (Tot.dec (fun h => Tot.ret (Tot.ret (Tot.ret ?_))) (fun h => Tot.ret ?_))))
   · rw [decide_eq_true (by omega)]
     exact ⟨fun _ => ⟨x, List.mem_of_getElem? hx, h⟩, fun _ => rfl⟩
   · intro a ha
     obtain ⟨hj, hx'⟩ := List.getElem?_eq_some_iff.1 hx
     rw [List.take_succ_eq_append_getElem hj, List.mem_append, hx', List.mem_singleton] at ha
     rcases ha with ha | rfl
     · exact hs a ha
     · exact h
 · rw [List.take_length] at hs
   constructor
   · intro h; exact absurd (of_decide_eq_true h) (by decide)
   · rintro ⟨a, h1, h2⟩; exact absurd h2 (hs a h1)
def GoodN (L : Tlattice_Lattice) (acc : List TNamed) (l : List TPair) : Prop := (∀ p, p ∈ l → okN L p ∧ ∀ a, a ∈ acc → a.Name ≠ p.Low) ∧ l.Pairwise fun p q => p.Low ≠ q.Low
theorem named_body (k : Nat) {L : Tlattice_Lattice} {c : Tschema_Catalog} (hc : c.lattice_ = some L) (p : TPair) (i : Nat) (acc : List TNamed) (hl : acc.length ≤ 1000) :
 (okN L p ∧ (∀ a, a ∈ acc → a.Name ≠ p.Low) ∧ schema_Catalog_named.b0 k c i p acc = some (.next (acc ++ [nm L p]))) ∨ (¬ (okN L p ∧ ∀ a, a ∈ acc → a.Name ≠ p.Low) ∧ ∃ e, schema_Catalog_named.b0 k c i p acc = some (.ret e) ∧ e.2.2.1 = 11) := by
 unfold schema_Catalog_named.b0
 rw [hc, find_eq, Option.bind_some]
 obtain ⟨h, hh, hh'⟩ := has_tot k acc p
 dsimp only
 cases hs : (mget L.at_ p.High).isSome
 · exact .inr ⟨fun g => (by have := g.1.1; rw [hs] at this; cases this), _, rfl, rfl⟩
 · by_cases h0 : p.Low = ⟨#[]⟩
   · rw [decide_eq_true h0]
     exact .inr ⟨fun g => g.1.2 h0, _, rfl, rfl⟩
   · rw [decide_eq_false h0, hh]
     simp only [Bool.not_true, cond_false, Option.bind_some]
     cases h
     · have hno : ∀ a, a ∈ acc → a.Name ≠ p.Low := fun a ha he => by have := hh'.2 ⟨a, ha, he⟩; cases this
       refine .inl ⟨⟨hs, h0⟩, hno, ?_⟩
       rw [show lim (acc.length + [(TNamed.mk p.Low ((mget L.at_ p.High).getD 0))].length) = some () from by unfold lim; rw [if_pos (by simp; omega)]]
       rfl
     · refine .inr ⟨fun g => ?_, _, rfl, rfl⟩
       obtain ⟨a, ha, he⟩ := hh'.1 rfl
       exact g.2 a ha he
theorem named_loop (k : Nat) {L : Tlattice_Lattice} {c : Tschema_Catalog} (hc : c.lattice_ = some L) : ∀ (l : List TPair) (i : Nat) (acc : List TNamed), acc.length + l.length ≤ 1000 →
 Tot (forL (schema_Catalog_named.b0 k c) i l acc) fun r => (r = .go (acc ++ l.map (nm L)) ∧ GoodN L acc l) ∨ (¬ GoodN L acc l ∧ ∃ e, r = .ret e ∧ e.2.2.1 = 11)
 | [], i, acc, _ => Tot.ret (.inl ⟨by simp, by simp, .nil⟩)
 | p :: l, i, acc, hl => by
  unfold forL
  rcases named_body k hc p i acc (by simp at hl; omega) with ⟨h1, h2, h3⟩ | ⟨h1, e, h2, h3⟩
  · rw [h3, Option.bind_some]
    refine (named_loop k hc l (i + 1) (acc ++ [nm L p]) (by simp at hl ⊢; omega)).mono ?_
    have hiff : GoodN L acc (p :: l) ↔ GoodN L (acc ++ [nm L p]) l := by
     unfold GoodN
     rw [List.pairwise_cons]
     constructor
     · rintro ⟨g1, g2, g3⟩
       refine ⟨fun q hq => ⟨(g1 q (List.mem_cons_of_mem _ hq)).1, fun a ha => ?_⟩, g3⟩
       rcases List.mem_append.1 ha with ha | ha
       · exact (g1 q (List.mem_cons_of_mem _ hq)).2 a ha
       · rw [List.mem_singleton.1 ha]; exact g2 q hq
     · rintro ⟨g1, g3⟩
       refine ⟨fun q hq => ?_, fun q hq => (g1 q hq).2 (nm L p) (by simp), g3⟩
       rcases List.mem_cons.1 hq with rfl | hq
       · exact ⟨h1, h2⟩
       · exact ⟨(g1 q hq).1, fun a ha => (g1 q hq).2 a (List.mem_append_left _ ha)⟩
    rintro r (⟨rfl, g⟩ | ⟨g, e, rfl, he⟩)
    · exact .inl ⟨by simp, hiff.2 g⟩
    · exact .inr ⟨fun h => g (hiff.1 h), e, rfl, he⟩
  · rw [h2, Option.bind_some]
    exact Tot.ret (.inr ⟨fun g => h1 (g.1 p List.mem_cons_self), e, rfl, h3⟩)
theorem named08 (k : Nat) {L : Tlattice_Lattice} {c : Tschema_Catalog} (hc : c.lattice_ = some L) (l : List TPair) (hl : l.length ≤ 1000) :
 (GoodN L [] l ∧ schema_Catalog_named k c l = some (l.map (nm L), 0, 0, c)) ∨ ∃ e, schema_Catalog_named k c l = some e ∧ e.2.2.1 = 11 := by
 unfold schema_Catalog_named
 obtain ⟨r, hr, ⟨rfl, g⟩ | ⟨g, e, rfl, he⟩⟩ := named_loop k hc l 0 [] (by simpa using hl)
 · exact .inl ⟨g, by rw [hr]; rfl⟩
 · exact .inr ⟨e, by rw [hr]; rfl, he⟩
theorem GoodN.sub {L : Tlattice_Lattice} {l l' : List TPair} (h : GoodN L [] l) (hs : l'.Sublist l) : GoodN L [] l' := ⟨fun p hp => h.1 p (hs.subset hp), h.2.sublist hs⟩
theorem named_good (k : Nat) {L : Tlattice_Lattice} {c : Tschema_Catalog} (hc : c.lattice_ = some L) (l : List TPair) (hl : l.length ≤ 1000) (h : GoodN L [] l) : schema_Catalog_named k c l = some (l.map (nm L), 0, 0, c) := by
 unfold schema_Catalog_named
 obtain ⟨r, hr, ⟨rfl, g⟩ | ⟨g, e, rfl, he⟩⟩ := named_loop k hc l 0 [] (by simpa using hl)
 · rw [hr]; rfl
 · exact absurd h g
structure Made (k : Nat) (s : TSchema) (c : Tschema_Catalog) : Prop where
 tabs : ∀ t, t ∈ c.tables_ → GoodT t
 few : c.tables_.length ≤ 20
 all : ∃ L, c.channels_ = s.Channels.map (nm L) ∧ c.principals_ = s.Principals.map (nm L) ∧ s.Channels.Pairwise (fun p q => p.Low ≠ q.Low) ∧ s.Principals.Pairwise (fun p q => p.Low ≠ q.Low) ∧ s.Channels.length ≤ 20 ∧ s.Principals.length ≤ 20 ∧
  ∀ ch pr, ch.Sublist s.Channels → pr.Sublist s.Principals → schema_New k ⟨s.Levels, s.Edges, s.Tables, ch, pr, s.Limit⟩ = some (some ⟨c.lattice_, c.tables_, c.at_, ch.map (nm L), pr.map (nm L), c.limit_⟩, 0, 0)
theorem new08 (k : Nat) (hk : 1048577 ≤ k) (s : TSchema) (hs : ∀ t, t ∈ s.Tables → lightT t) : Tot (schema_New k s) fun r => (r.1 = none ∧ r.2.2 ≠ 0) ∨ (r.2.2 = 0 ∧ ∃ c, r.1 = some c ∧ Made k s c) := by
 have hlat : ∃ d, lattice_New k s.Levels s.Edges = some d ∧ (d.2 ≠ 0 ∨ ∃ L, d = (some L, 0) ∧ Lat s.Levels.length (Way s.Levels s.Edges) L) := by
  by_cases hn : s.Levels.length ≤ 16
  · by_cases hE : s.Edges.length ≤ 64
    · rcases new_all k hk s.Levels s.Edges hn hE with ⟨L, h1, h2, _⟩ | ⟨h1, _⟩ | ⟨h1, _⟩
      · exact ⟨_, h1, .inr ⟨L, rfl, h2⟩⟩
      · exact ⟨_, h1, .inl (by simp)⟩
      · exact ⟨_, h1, .inl (by simp)⟩
    · exact ⟨_, new_many k _ _ (.inr (by omega)), .inl (by simp)⟩
  · exact ⟨_, new_many k _ _ (.inl (by omega)), .inl (by simp)⟩
 obtain ⟨d, hd, hd'⟩ := hlat
 have hNew : ∀ ch pr, schema_New k ⟨s.Levels, s.Edges, s.Tables, ch, pr, s.Limit⟩ = _ := fun ch pr => by unfold schema_New; rfl
 unfold schema_New
 rw [hd, Option.bind_some]
 rcases hd' with he | ⟨L, rfl, hL⟩
 · refine Tot.ndec (fun _ => Tot.ret (.inl ⟨rfl, he⟩)) (fun h => absurd h he)
 refine Tot.ndec (fun h => absurd rfl h) (fun _ => ?_)
 by_cases hmax : (20 : Int) < max (max (s.Tables.length : Int) (s.Channels.length : Int)) (s.Principals.length : Int)
 · rw [decide_eq_true hmax]; exact Tot.ret (.inl ⟨rfl, by simp⟩)
 rw [decide_eq_false hmax]
 by_cases hl0 : s.Limit < 0
 · rw [decide_eq_true hl0]; exact Tot.ret (.inl ⟨rfl, by simp⟩)
 rw [decide_eq_false hl0]
 by_cases hl1 : (100 : Int) < s.Limit
 · rw [decide_eq_true hl1]; exact Tot.ret (.inl ⟨rfl, by simp⟩)
 rw [decide_eq_false hl1]
 simp only [cond_false, Option.bind_some]
 obtain ⟨m, hm⟩ : ∃ m, (bif decide (s.Limit = (0 : Int)) then some ((100 : Int)) else some s.Limit) = some m := by
  cases decide (s.Limit = (0 : Int)) <;> exact ⟨_, rfl⟩
 rw [hm, Option.bind_some]
 have htab : Tot (forL (schema_New.b0 k (some L, 0) m) 0 s.Tables (([] : List TRelation), ([] : Places))) fun r => (∃ T A, r = .go (T, A) ∧ (∀ t, t ∈ T → GoodT t) ∧ T.length = s.Tables.length) ∨ ∃ e, r = .ret e ∧ e.1 = none ∧ e.2.2 ≠ 0 := by
  refine Tot.forL (fun j (st : List TRelation × Places) => (∀ t, t ∈ st.1 → GoodT t) ∧ st.1.length = j) (by simp) ?_ ?_
  · rintro j t ⟨T, A⟩ ht ⟨g1, g2⟩
    dsimp only at g1 g2
    have hj : j < s.Tables.length := (List.getElem?_eq_some_iff.1 ht).1
    unfold schema_New.b0
    refine Tot.to (table_tot k (by omega) (b := ⟨some L, T, A, [], [], m⟩) rfl hL t (hs t (List.mem_of_getElem? ht)) (by simp only []; omega)) fun r hr => ?_
    refine Tot.ndec (fun h => Tot.ret (.inr ⟨_, rfl, rfl, h⟩)) (fun h => Tot.ret ?_)
    obtain ⟨x, hx, hx'⟩ := hr h
    dsimp only at hx ⊢
    rw [hx]
    refine ⟨fun y hy => ?_, by simp [g2]⟩
    rcases List.mem_append.1 hy with hy | hy
    · exact g1 y hy
    · rw [List.mem_singleton.1 hy]; exact hx'
  · rintro ⟨T, A⟩ ⟨g1, g2⟩
    exact .inl ⟨T, A, rfl, g1, g2⟩
 obtain ⟨r, hr, ⟨T, A, rfl, hT, hTl⟩ | ⟨e, rfl, he1, he2⟩⟩ := htab
 · rw [hr, Option.bind_some, Lr.k]
   rcases named08 k (c := ⟨some L, T, A, [], [], m⟩) rfl s.Channels (by omega) with ⟨hg, hn⟩ | ⟨e, hn, he⟩
   · rw [hn, Option.bind_some]
     refine Tot.ndec (fun h => absurd rfl h) (fun _ => ?_)
     rcases named08 k (c := ⟨some L, T, A, s.Channels.map (nm L), [], m⟩) rfl s.Principals (by omega) with ⟨hg', hn'⟩ | ⟨e, hn', he⟩
     · rw [hn', Option.bind_some]
       refine Tot.ndec (fun h => absurd rfl h) (fun _ => Tot.ret (.inr ⟨rfl, _, rfl, hT, by simp only []; omega, L, rfl, rfl, hg.2, hg'.2, by omega, by omega, ?_⟩))
       intro ch pr hch hpr
       have l1 := hch.length_le
       have l2 := hpr.length_le
       rw [hNew]
       simp only []
       rw [hd, Option.bind_some]
       simp only [decide_true, Bool.not_true, cond_false]
       rw [decide_eq_false (show ¬ (20 : Int) < max (max (s.Tables.length : Int) (ch.length : Int)) (pr.length : Int) by omega), decide_eq_false hl0, decide_eq_false hl1]
       simp only [cond_false, Option.bind_some]
       rw [hm, Option.bind_some, hr, Option.bind_some, Lr.k, named_good k (c := ⟨some L, T, A, [], [], m⟩) rfl ch (by omega) (hg.sub hch), Option.bind_some]
       simp only [decide_true, Bool.not_true, cond_false]
       rw [named_good k (c := ⟨some L, T, A, ch.map (nm L), [], m⟩) rfl pr (by omega) (hg'.sub hpr), Option.bind_some]
       rfl
     · rw [hn', Option.bind_some]
       exact Tot.ndec (fun h => Tot.ret (.inl ⟨rfl, h⟩)) (fun h => absurd (he.symm.trans h) (by decide))
   · rw [hn, Option.bind_some]
     exact Tot.ndec (fun h => Tot.ret (.inl ⟨rfl, h⟩)) (fun h => absurd (he.symm.trans h) (by decide))
 · rw [hr, Option.bind_some, Lr.k]
   exact Tot.ret (.inl ⟨he1, he2⟩)
end Go.Proofs.YtknhbphhdfknaaaGreatDoor
set_option linter.unusedVariables false
set_option linter.unusedSimpArgs false
set_option maxRecDepth 100000
namespace Go.Proofs.YtknhbphhdfknaaaGreatDoor
theorem getO_at {α : Type} {l : List α} {j : Nat} {x : α} (h : l[j]? = some x) : getO l (j : Int) = some x := by
 unfold getO; rw [if_pos (by omega)]; simpa using h
theorem set_same {α : Type} {l : List α} {j : Nat} {x : α} (h : l[j]? = some x) : setO l (j : Int) x = l := by
 obtain ⟨hj, he⟩ := List.getElem?_eq_some_iff.1 h
 unfold setO; rw [Int.toNat_natCast, ← he]; simp
theorem tables_eq (k : Nat) (c : Tschema_Catalog) (hT : ∀ t, t ∈ c.tables_ → GoodT t) (hl : c.tables_.length ≤ 1000) : schema_Catalog_Tables k (some c) = some c.tables_ := by
 have : Tot (schema_Catalog_Tables k (some c)) fun r => r = c.tables_ := by
  unfold schema_Catalog_Tables
  refine Tot.cond (fun h => by simp at h) (fun _ => Tot.optE rfl ?_)
  have hcl : slices_Clone_api_Relation_api_Relation k c.tables_ = some c.tables_ := by
   unfold slices_Clone_api_Relation_api_Relation
   rw [show lim (([]:List TRelation).length + c.tables_.length) = some () from by unfold lim; rw [if_pos (by simp; omega)]]; simp
  rw [hcl, Option.bind_some]
  refine Tot.bind (Tot.forL (fun _ d => d = c.tables_) rfl ?_ fun d hd => Tot.ret hd)
  rintro j t d hd rfl
  obtain ⟨h1, h2, h3⟩ := hT t (List.mem_of_getElem? hd)
  unfold schema_Catalog_Tables.b0
  have e1 : slices_Clone_api_Field_api_Field k t.Cols = some t.Cols := by
   unfold slices_Clone_api_Field_api_Field
   rw [show lim (([]:List TField).length + t.Cols.length) = some () from by unfold lim; rw [if_pos (by simp; omega)]]; simp
  have e2 : slices_Clone_int_int k t.Key = some t.Key := by
   unfold slices_Clone_int_int
   rw [show lim (([]:List Int).length + t.Key.length) = some () from by unfold lim; rw [if_pos (by simp; omega)]]; simp
  have e3 : slices_Clone_api_Expr_api_Expr k t.When = some t.When := clone_expr k _ (by
   rcases h1 with h1 | ⟨x, cols, h1, _⟩ <;> rw [h1] <;> simp)
  have eta : (⟨t.Name, t.Rows, t.Cols, t.Key, t.Hide, t.When⟩ : TRelation) = t := rfl
  rw [Nat.zero_add]
  simp only [getO_at hd, Option.bind_some, e1, e2, e3, eta, set_same hd]
  exact Tot.ret rfl
 obtain ⟨r, hr, rfl⟩ := this
 exact hr
end Go.Proofs.YtknhbphhdfknaaaGreatDoor
set_option linter.unusedVariables false
set_option linter.unusedSimpArgs false
namespace Go.Proofs.YtknhbphhdfknaaaGreatDoor
theorem beq_of_iff {a b : Bool} {p : Prop} (h1 : a = true ↔ p) (h2 : b = true ↔ p) : (a == b) = true := by
 cases a <;> cases b <;> simp_all
section
variable {names : List ByteArray} {E : List TPair}
theorem way_lt {a b : Nat} (h : Way names E a b) : a < names.length ∧ b < names.length := by
 induction h with
 | refl h => exact ⟨h, h⟩
 | step _ k ih =>
  obtain ⟨e, _, _, h2⟩ := k
  exact ⟨ih.1, (List.getElem?_eq_some_iff.1 h2).1⟩
end
section
variable {n : Nat} {r : Nat → Nat → Prop} {L : Tlattice_Lattice}
theorem join_in (k : Nat) (h : Lat n r L) {a b : Nat} (ha : a < n) (hb : b < n) : ∃ c : Nat, lattice_Lattice_Join k (some L) (a : Int) (b : Int) = some (c : Int) ∧ IsJoin n r a b c := by
 obtain ⟨c, c1, c2⟩ := (h.good a b ha hb).2.1
 have hn := h.small
 have hj1 : inB 16 (a : Int) = some () := by unfold inB; rw [if_pos (by omega)]
 have hj2 : inB 16 (b : Int) = some () := by unfold inB; rw [if_pos (by omega)]
 refine ⟨c, ?_, c2⟩
 unfold lattice_Lattice_Join
 simp only [is_in k h ha, is_in k h hb, Option.bind_some, Bool.not_true, cond_false, optE, hj1, hj2, Int.toNat_natCast, Nat.mul_one, c1]
theorem Lat.anti (h : Lat n r L) {a b : Nat} (ha : a < n) (hb : b < n) (h1 : r a b) (h2 : r b a) : a = b := by
 by_cases e : a = b
 · exact e
 · exact ((h.good a b ha hb).1 e ⟨h1, h2⟩).elim
theorem Lat.rich (h : Lat n r L) {a b : Nat} (ha : a < n) (hb : b < n) : ¬ Poor n r a b := by
 obtain ⟨h1, ⟨c, _, h2⟩, ⟨d, _, h3⟩⟩ := h.good a b ha hb
 rintro (⟨e, k1, k2⟩ | k | k)
 · exact h1 e ⟨k1, k2⟩
 · exact k ⟨c, h2⟩
 · exact k ⟨d, h3⟩
theorem Lat.joinu (h : Lat n r L) {a b c d : Nat} (h1 : IsJoin n r a b c) (h2 : IsJoin n r a b d) : c = d :=
 h.anti h1.1 h2.1 (h1.2.2.2 d h2.2.1 h2.2.2.1) (h2.2.2.2 c h1.2.1 h1.2.2.1)
theorem bottom_in (k : Nat) (h : Lat n r L) (tr : ∀ a b c, r a b → r b c → r a c) : ∃ c : Nat, lattice_Lattice_Bottom k (some L) = some (c : Int) ∧ c < n ∧ ∀ b, b < n → r c b := by
 have hn := h.small
 obtain ⟨s, h1, m, rfl, h2, h3⟩ := forL_end (body := lattice_Lattice_Bottom.b0 k L) (xs := L.names_) (s := (0 : Int)) (fun i s => ∃ m : Nat, s = (m : Int) ∧ m < n ∧ ∀ b, b < i → r m b) ⟨0, rfl, h.pos, fun b hb => absurd hb (Nat.not_lt_zero _)⟩ (by
  rintro j x s hx ⟨m, rfl, h2, h3⟩
  have hj : j < n := by have := (List.getElem?_eq_some_iff.1 hx).1; rw [h.names] at this; exact this
  obtain ⟨c, c1, c2⟩ := (h.good m j h2 hj).2.2
  have hj1 : inB 16 (m : Int) = some () := by unfold inB; rw [if_pos (by omega)]
  have hj2 : inB 16 (j : Int) = some () := by unfold inB; rw [if_pos (by omega)]
  refine ⟨(c : Int), ?_, c, rfl, c2.1, fun b hb => ?_⟩
  · unfold lattice_Lattice_Bottom.b0
    simp only [hj1, hj2, Option.bind_some, Int.toNat_natCast, Nat.mul_one, c1]
  · rcases Nat.lt_succ_iff_lt_or_eq.1 hb with hb | rfl
    · exact tr _ _ _ c2.2.1 (h3 b hb)
    · exact c2.2.2.1)
 refine ⟨m, ?_, h2, fun b hb => h3 b (by rw [h.names]; exact hb)⟩
 unfold lattice_Lattice_Bottom
 have := is_in k h h.pos
 simp only [show ((0 : Nat) : Int) = 0 from rfl] at this
 simp only [this, Option.bind_some, Bool.not_true, cond_false, optE, h1, Lr.k]
end
end Go.Proofs.YtknhbphhdfknaaaGreatDoor
set_option linter.unusedVariables false
set_option linter.unusedSimpArgs false
set_option maxRecDepth 100000
namespace Go.Proofs.YtknhbphhdfknaaaGreatDoor
def Par {α : Type} (x : Option α) (P : α → Prop) : Prop := ∀ a, x = some a → P a
section
variable {α β R S : Type} {x y : Option α} {f : α → Option β} {P P' : α → Prop} {Q : β → Prop} {b : Bool} {a : α} {p : Prop} [Decidable p]
theorem Par.ret (h : P a) : Par (some a) P := fun _ e => by cases e; exact h
theorem Par.none_ : Par (none : Option α) P := fun _ e => by cases e
theorem Par.bind (h : Par x fun a => Par (f a) Q) : Par (x.bind f) Q := fun b e => by
 obtain ⟨a, h1, h2⟩ := Option.bind_eq_some_iff.1 e; exact h a h1 b h2
theorem Par.any (h : ∀ a, Par (f a) Q) : Par (x.bind f) Q := Par.bind fun a _ => h a
theorem Par.mono (h : Par x P) (k : ∀ a, P a → P' a) : Par x P' := fun a e => k a (h a e)
theorem Par.to (h : Par x P) (k : ∀ a, P a → Par (f a) Q) : Par (x.bind f) Q := Par.bind (h.mono k)
theorem Par.cond (h1 : b = true → Par x P) (h2 : b = false → Par y P) : Par (bif b then x else y) P := by
 cases b
 · exact h2 rfl
 · exact h1 rfl
theorem Par.dec (h1 : p → Par x P) (h2 : ¬ p → Par y P) : Par (bif decide p then x else y) P := by
 by_cases h : p
 · rw [decide_eq_true h]; exact h1 h
 · rw [decide_eq_false h]; exact h2 h
theorem Par.ndec (h1 : ¬ p → Par x P) (h2 : p → Par y P) : Par (bif !decide p then x else y) P := by
 by_cases h : p
 · rw [decide_eq_true h]; exact h2 h
 · rw [decide_eq_false h]; exact h1 h
theorem Par.not (h1 : b = false → Par x P) (h2 : b = true → Par y P) : Par (bif !b then x else y) P := by
 cases b
 · exact h1 rfl
 · exact h2 rfl
theorem Par.optE {γ : Type} {o : Option γ} {f : γ → Option α} (k : ∀ c, o = some c → Par (f c) P) : Par (Go.Proofs.YtknhbphhdfknaaaGreatDoor.optE o none f) P := by
 cases o with
 | none => exact Par.none_
 | some c => exact k c rfl
theorem Par.getO {xs : List α} {i : Int} (k : ∀ a, xs[i.toNat]? = some a → P a) : Par (getO xs i) P := fun a e => by
 unfold Go.Proofs.YtknhbphhdfknaaaGreatDoor.getO at e
 split at e
 · exact k a e
 · cases e
theorem Par.forL {γ : Type} {body : Nat → γ → S → Option (Step R S)} {xs : List γ} {i : Nat} {s : S} {Q : Lr R S → Prop} (I : Nat → S → Prop) (h0 : I 0 s)
  (step : ∀ j c s, xs[j]? = some c → I j s → Par (body (i + j) c s) fun r => match r with
   | .next s => I (j + 1) s
   | .brk s => Q (.go s)
   | .ret r => Q (.ret r)) (h1 : ∀ s, I xs.length s → Q (.go s)) : Par (forL body i xs s) Q := by
 induction xs generalizing i s I with
 | nil => exact Par.ret (h1 _ h0)
 | cons c xs ih =>
  have hs := step 0 c s (by simp) h0
  rw [Nat.add_zero] at hs
  unfold Go.Proofs.YtknhbphhdfknaaaGreatDoor.forL
  refine Par.bind fun r hr => ?_
  have hq := hs r hr
  cases r with
  | next s' =>
   refine ih (fun j => I (j + 1)) hq (fun j c s hc hi => ?_) (fun s hs => h1 s (by simpa using hs))
   have := step (j + 1) c s (by simpa using hc) hi
   rwa [show i + 1 + j = i + (j + 1) by omega]
  | brk s' => exact Par.ret hq
  | ret r => exact Par.ret hq
end
def lv (names : List ByteArray) (x : ByteArray) : Int := (mget (atL 0 names) x).getD 0
theorem lv_at {names : List ByteArray} {x : ByteArray} (h : x ∈ names) : ∃ i : Nat, lv names x = (i : Int) ∧ names[i]? = some x := by
 cases hm : mget (atL 0 names) x with
 | none => exact absurd h ((at_none _ _ _).1 hm)
 | some v =>
  obtain ⟨i, h1, h2⟩ := at_some _ _ _ _ hm
  exact ⟨i, by unfold lv; rw [hm, Option.getD_some, h1, Nat.zero_add], h2⟩
theorem lv_in {names : List ByteArray} {x : ByteArray} (h : x ∈ names) : 0 ≤ lv names x ∧ lv names x < names.length := by
 obtain ⟨i, h1, h2⟩ := lv_at h
 have := (List.getElem?_eq_some_iff.1 h2).1
 omega
theorem mem_of_isSome {names : List ByteArray} {x : ByteArray} (h : (mget (atL 0 names) x).isSome = true) : x ∈ names := by
 refine Classical.byContradiction fun hn => ?_
 rw [(at_none _ _ _).2 hn] at h; cases h
def fld (names : List ByteArray) (c : TCol) : TField := ⟨c.Name, c.Type_, c.Null, lv names c.Level⟩
def fld0 (c : TCol) : TField := ⟨c.Name, c.Type_, c.Null, 0⟩
def cix : List TCol → Nat → ByteArray → Option Nat
 | [], _, _ => none
 | c :: l, i, s => if c.Name = s then some i else cix l (i + 1) s
theorem cix_app : ∀ (l : List TCol) (i : Nat) (c : TCol) (s : ByteArray), cix (l ++ [c]) i s = match cix l i s with
  | some j => some j
  | none => if c.Name = s then some (i + l.length) else none
 | [], i, c, s => by simp [cix]
 | d :: l, i, c, s => by
  simp only [List.cons_append, cix]
  split
  · rfl
  · rw [cix_app l (i + 1) c s, List.length_cons, show i + 1 + l.length = i + (l.length + 1) by omega]
def cixI (cols : List TCol) (s : ByteArray) : Int := ((cix cols 0 s).map fun i : Nat => (i : Int)).getD 0
def bare (t : TTable) : Prop := t.Hide = ⟨#[]⟩ ∧ t.When.length = 0
instance (t : TTable) : Decidable (bare t) := inferInstanceAs (Decidable (_ ∧ _))
def tabOf (names : List ByteArray) (t : TTable) : TRelation :=
 ⟨t.Name, lv names t.Rows, t.Cols.map (fld names), t.Key.map (cixI t.Cols), if bare t then -1 else lv names t.Hide, if bare t then [] else t.When⟩
def okT (names : List ByteArray) (t : TTable) : Prop := t.Rows ∈ names ∧ (∀ c, c ∈ t.Cols → c.Level ∈ names) ∧ (bare t ∨ t.Hide ∈ names)
def nmd (names : List ByteArray) (p : TPair) : TNamed := ⟨p.Low, lv names p.High⟩
section
variable {L : Tlattice_Lattice} {names : List ByteArray} (k : Nat)
theorem find_at0 (ha : L.at_ = atL 0 names) (s : ByteArray) : lattice_Lattice_Find k (some L) s = some (lv names s, (mget (atL 0 names) s).isSome) := by
 rw [find_eq, ha]; rfl
theorem levels_par {c : Tschema_Catalog} (hc : c.lattice_ = some L) (ha : L.at_ = atL 0 names) (t : TTable) (b : TRelation) (hb : b.Cols = t.Cols.map fld0) :
  Par (schema_Catalog_levels k c t b) fun r => r.1 = 0 → r.2.2 = ⟨b.Name, lv names t.Rows, t.Cols.map (fld names), b.Key, b.Hide, b.When⟩ ∧ t.Rows ∈ names ∧ ∀ x, x ∈ t.Cols → x.Level ∈ names := by
 unfold schema_Catalog_levels
 rw [hc, find_at0 k ha, Option.bind_some]
 refine Par.not (fun _ => Par.ret fun h => ne0 h) (fun hm => ?_)
 have hR := mem_of_isSome hm
 refine Par.bind (Par.forL (fun j (f : List TField) => f.length = t.Cols.length ∧ (∀ i y, t.Cols[i]? = some y → f[i]? = some (if i < j then fld names y else fld0 y)) ∧ ∀ i y, t.Cols[i]? = some y → i < j → y.Level ∈ names) ?_ ?_ ?_)
 · rw [hb]
   refine ⟨by simp, fun i y hy => by simp [hy], fun i y _ h => by omega⟩
 · rintro j x f hx ⟨h1, h2, h3⟩
   unfold schema_Catalog_levels.b0
   rw [hc, find_at0 k ha, Option.bind_some]
   refine Par.not (fun _ => Par.ret (Par.ret fun h => ne0 h)) (fun hm => Par.bind (Par.getO fun d hd => Par.ret ?_))
   have hL := mem_of_isSome hm
   rw [Nat.zero_add, Int.toNat_natCast, h2 j x hx, if_neg (by omega)] at hd
   cases hd
   refine ⟨by simp [setO, h1], fun i y hy => ?_, fun i y hy hi => ?_⟩
   · unfold setO
     rw [Nat.zero_add, Int.toNat_natCast, List.getElem?_set]
     by_cases e : j = i
     · subst e
       rw [hx] at hy; cases hy
       have hj : j < f.length := by rw [h1]; exact (List.getElem?_eq_some_iff.1 hx).1
       simp [hj, fld, fld0]
     · rw [if_neg e, h2 i y hy]
       by_cases hl : i < j
       · rw [if_pos hl, if_pos (by omega)]
       · rw [if_neg hl, if_neg (by omega)]
   · rcases Nat.lt_succ_iff_lt_or_eq.1 hi with hi | rfl
     · exact h3 i y hy hi
     · rw [hx] at hy; cases hy; exact hL
 · rintro f ⟨h1, h2, h3⟩
   refine Par.ret fun _ => ⟨?_, hR, fun x hx => ?_⟩
   · have : f = t.Cols.map (fld names) := by
      refine List.ext_getElem? fun i => ?_
      rw [List.getElem?_map]
      cases hy : t.Cols[i]? with
      | none =>
       have : t.Cols.length ≤ i := by simpa using hy
       simp; omega
      | some y =>
       have := (List.getElem?_eq_some_iff.1 hy).1
       rw [h2 i y hy, if_pos this]; rfl
     rw [this]
   · obtain ⟨i, hi⟩ := List.mem_iff_getElem?.1 hx
     exact h3 i x hi (List.getElem?_eq_some_iff.1 hi).1
theorem key_par (c : Tschema_Catalog) (t : TTable) (b : TRelation) (g : Places) (hb : b.Key = []) :
  Par (schema_Catalog_key k c t b g) fun r => r.1 = 0 → r.2.2 = ⟨b.Name, b.Rows, b.Cols, t.Key.map (fun s => (mget g s).getD 0), b.Hide, b.When⟩ := by
 unfold schema_Catalog_key
 refine Par.bind (Par.forL (fun j (d : List Int) => d = (t.Key.take j).map fun s => (mget g s).getD 0) (by rw [hb]; rfl) ?_ ?_)
 · rintro j s d hs rfl
   unfold schema_Catalog_key.b1
   refine Par.any fun f => Par.cond (fun _ => Par.ret (Par.ret fun h => ne0 h)) (fun _ => Par.any fun _ => Par.ret ?_)
   rw [List.take_add_one, hs, Option.toList_some, List.map_append]; rfl
 · rintro d rfl
   refine Par.bind (Par.forL (fun _ d' => d' = t.Key.map fun s => (mget g s).getD 0) (by simp) ?_ ?_)
   · rintro j v d' hv rfl
     unfold schema_Catalog_key.b0
     refine Par.any fun e => Par.any fun f => Par.any fun g => Par.not (fun _ => Par.ret (Par.ret fun h => ne0 h)) (fun _ => Par.ret rfl)
   · rintro d' rfl
     exact Par.ret fun _ => rfl
theorem hide_par {c : Tschema_Catalog} (hc : c.lattice_ = some L) (ha : L.at_ = atL 0 names) (t : TTable) (b : TRelation) (g : Places) (h1 : b.Hide = -1) (h2 : b.When = []) :
  Par (schema_Catalog_hide k c t b g) fun r => r.1 = 0 → r.2.2 = ⟨b.Name, b.Rows, b.Cols, b.Key, if bare t then -1 else lv names t.Hide, if bare t then [] else t.When⟩ ∧ (bare t ∨ t.Hide ∈ names) := by
 unfold schema_Catalog_hide
 have hm : (bif decide (t.Hide = (⟨#[]⟩ : ByteArray)) then some (decide ((t.When.length : Int) = (0 : Int))) else some false) = some (decide (bare t)) := by
  unfold bare
  by_cases h : t.Hide = (⟨#[]⟩ : ByteArray)
  · simp [h]
  · simp [h]
 rw [hm, Option.bind_some]
 refine Par.dec (fun hb => Par.ret fun _ => ⟨?_, .inl hb⟩) (fun hb => ?_)
 · rw [if_pos hb, if_pos hb, ← h1, ← h2]
 rw [hc, find_at0 k ha, Option.bind_some]
 refine Par.not (fun _ => Par.ret fun h => ne0 h) (fun hm => ?_)
 have hH := mem_of_isSome hm
 refine Par.any fun o => Par.not (fun _ => Par.ret fun h => ne0 h) (fun _ => Par.ndec (fun _ => Par.ret fun h => ne0 h) (fun hl => ?_))
 refine Par.any fun i => Par.any fun e => Par.not (fun _ => Par.ret fun h => ne0 h) (fun _ => Par.any fun h => Par.any fun l => Par.cond (fun _ => Par.ret fun h => ne0 h) (fun _ => ?_))
 refine Par.bind (Par.forL (fun _ _ => True) trivial ?_ ?_)
 · rintro j v d hv _
   unfold schema_Catalog_hide.b0
   refine Par.any fun e => Par.any fun f => Par.any fun g => Par.not (fun _ => Par.ret (Par.ret fun h => ne0 h)) (fun _ => Par.ret trivial)
 · intro d _
   rw [Lr.k, clone_expr k _ (by omega), Option.bind_some]
   exact Par.ret fun _ => ⟨by rw [if_neg hb, if_neg hb], .inr hH⟩
theorem table_par {b : Tschema_Catalog} (hc : b.lattice_ = some L) (ha : L.at_ = atL 0 names) (t : TTable) :
  Par (schema_Catalog_table k b t) fun r => r.1 = 0 → r.2.tables_ = b.tables_ ++ [tabOf names t] ∧ okT names t := by
 unfold schema_Catalog_table
 refine Par.any fun i => Par.cond (fun _ => Par.ret fun h => ne0 h) (fun _ => Par.any fun l => Par.cond (fun _ => Par.ret fun h => ne0 h) (fun _ => ?_))
 refine Par.bind (Par.forL (fun j (s : List TField × Places) => s.1 = (t.Cols.take j).map fld0 ∧ ∀ x, mget s.2 x = (cix (t.Cols.take j) 0 x).map fun i : Nat => (i : Int)) ⟨rfl, fun x => rfl⟩ ?_ ?_)
 · rintro j x ⟨f, m⟩ hx ⟨g1, g2⟩
   dsimp only at g1 g2
   have hj : j < t.Cols.length := (List.getElem?_eq_some_iff.1 hx).1
   unfold schema_Catalog_table.b0
   refine Par.bind fun v hv => Par.cond (fun _ => Par.ret (Par.ret fun h => ne0 h)) (fun hf => Par.any fun _ => Par.ret ?_)
   have hn : mget m x.Name = none := by
    cases he : mget m x.Name with
    | none => rfl
    | some w =>
     rw [he, hf] at hv
     cases (show some true = some false from hv)
   have htk : t.Cols.take (j + 1) = t.Cols.take j ++ [x] := by rw [List.take_add_one, hx]; rfl
   refine ⟨by show f ++ [fld0 x] = _; rw [g1, htk, List.map_append]; rfl, fun y => ?_⟩
   show mget (mput m x.Name ((0 + j : Nat) : Int)) y = _
   rw [htk, cix_app, mget_mput, g2 y]
   have hl : (t.Cols.take j).length = j := by rw [List.length_take]; omega
   have hx0 := g2 x.Name
   rw [hn] at hx0
   by_cases e : x.Name = y
   · subst e
     rw [if_pos rfl, if_pos rfl, hl]
     cases hc : cix (t.Cols.take j) 0 x.Name with
     | none => simp
     | some w => rw [hc] at hx0; cases hx0
   · rw [if_neg e, if_neg e]
     cases cix (t.Cols.take j) 0 y <;> rfl
 · rintro ⟨f, m⟩ ⟨g1, g2⟩
   dsimp only at g1 g2
   rw [List.take_length] at g1 g2
   refine Par.any fun h1 => Par.ndec (fun hh => Par.ret fun h => absurd h hh) (fun _ => ?_)
   refine Par.to (levels_par k hc ha t ⟨t.Name, 0, f, [], -1, []⟩ g1) fun d hd => Par.ndec (fun hh => Par.ret fun h => absurd h hh) (fun hd0 => ?_)
   obtain ⟨d1, d2, d3⟩ := hd hd0
   refine Par.to (key_par k b t ⟨t.Name, d.2.2.Rows, d.2.2.Cols, [], -1, []⟩ m rfl) fun e he => Par.ndec (fun hh => Par.ret fun h => absurd h hh) (fun he0 => ?_)
   have e1 := he he0
   refine Par.to (hide_par k hc ha t ⟨t.Name, d.2.2.Rows, d.2.2.Cols, e.2.2.Key, -1, []⟩ m rfl rfl) fun w hw => Par.ndec (fun hh => Par.ret fun h => absurd h hh) (fun hw0 => ?_)
   obtain ⟨w1, w2⟩ := hw hw0
   refine Par.any fun _ => Par.ret fun _ => ⟨?_, d2, d3, w2⟩
   have : (fun s => (mget m s).getD 0) = cixI t.Cols := funext fun s => by unfold cixI; rw [g2]
   rw [w1, e1, d1, this]; rfl
end
end Go.Proofs.YtknhbphhdfknaaaGreatDoor
set_option linter.unusedVariables false
set_option linter.unusedSimpArgs false
namespace Go.Proofs.YtknhbphhdfknaaaGreatDoor
theorem find_spec (k : Nat) (l : List ByteArray) (x : ByteArray) : (∃ i : Nat, ref03_Find k l x = some (i : Int) ∧ l[i]? = some x) ∨ (ref03_Find k l x = some (-1) ∧ x ∉ l) := by
 rcases forL_spec (body := ref03_Find.b0 k x) (xs := l) (s := ()) (fun i _ => x ∉ l.take i) (fun y => ∃ i : Nat, y = (i : Int) ∧ l[i]? = some x) (by simp) (by
  rintro j y ⟨⟩ hy hP
  unfold ref03_Find.b0
  by_cases h : y = x
  · subst h
    exact .inr ⟨(j : Int), by simp only [decide_true, cond_true], j, rfl, hy⟩
  · refine .inl ⟨(), by simp only [decide_eq_false h, cond_false], ?_⟩
    rw [take_succ hy, List.mem_append]
    rintro (h1 | h1)
    · exact hP h1
    · exact h ((List.mem_singleton.1 h1).symm)) with ⟨⟨⟩, h1, h2⟩ | ⟨y, h1, i, rfl, h2⟩
 · refine .inr ⟨?_, by simpa using h2⟩
   unfold ref03_Find
   simp only [h1, Option.bind_some, Lr.k]
 · refine .inl ⟨i, ?_, h2⟩
   unfold ref03_Find
   simp only [h1, Option.bind_some, Lr.k]
theorem find_at (k : Nat) {l : List ByteArray} (hd : Apart l) {i : Nat} {x : ByteArray} (h : l[i]? = some x) : ref03_Find k l x = some (i : Int) := by
 rcases find_spec k l x with ⟨j, h1, h2⟩ | ⟨_, h1⟩
 · rw [h1, hd i j x h h2]
 · exact absurd (List.mem_of_getElem? h) h1
theorem find_not (k : Nat) {l : List ByteArray} {x : ByteArray} (h : x ∉ l) : ref03_Find k l x = some (-1) := by
 rcases find_spec k l x with ⟨j, _, h2⟩ | ⟨h1, _⟩
 · exact absurd (List.mem_of_getElem? h2) h
 · exact h1
theorem find_neg (k : Nat) (l : List ByteArray) (x : ByteArray) : ∃ v : Int, ref03_Find k l x = some v ∧ (v < 0 ↔ x ∉ l) := by
 rcases find_spec k l x with ⟨j, h1, h2⟩ | ⟨h1, h2⟩
 · exact ⟨_, h1, iff_of_false (by omega) (fun h => h (List.mem_of_getElem? h2))⟩
 · exact ⟨_, h1, iff_of_true (by omega) h2⟩
theorem set_true {l : List Bool} {j : Nat} (hj : j < l.length) (b : Nat) : (l.set j true)[b]? = some true ↔ b = j ∨ l[b]? = some true := by
 rw [List.getElem?_set]
 by_cases h : j = b
 · subst h; simp [hj]
 · simp [h, Ne.symm h]
theorem count_grow : ∀ (l m : List Bool), l.length = m.length → (∀ b : Nat, l[b]? = some true → m[b]? = some true) → l.count true ≤ m.count true ∧ ((∃ b : Nat, m[b]? = some true ∧ ¬ l[b]? = some true) → l.count true < m.count true)
 | [], [], _, _ => ⟨Nat.le_refl _, fun ⟨b, h, _⟩ => by simp at h⟩
 | [], _ :: _, h, _ => by simp at h
 | _ :: _, [], h, _ => by simp at h
 | x :: l, y :: m, h, hs => by
  have ih := count_grow l m (by simpa using h) (fun b hb => by simpa using hs (b + 1) (by simpa using hb))
  have h0 : x = true → y = true := fun hx => by simpa using hs 0 (by simp [hx])
  have c0 : x.toNat ≤ y.toNat := by cases x <;> cases y <;> simp_all
  have cx : (x :: l).count true = l.count true + x.toNat := by cases x <;> simp
  have cy : (y :: m).count true = m.count true + y.toNat := by cases y <;> simp
  rw [cx, cy]
  refine ⟨by omega, ?_⟩
  rintro ⟨b, hb1, hb2⟩
  cases b with
  | zero =>
   have hy : y = true := by simpa using hb1
   have hx : x = false := by
    cases hx : x
    · rfl
    · rw [hx] at hb2; exact absurd (by simp) hb2
   have := ih.1
   rw [hx, hy]
   show l.count true + 0 < m.count true + 1
   omega
  | succ b =>
   have := ih.2 ⟨b, by simpa using hb1, by simpa using hb2⟩
   omega
theorem mkO_bools {n : Nat} (h : n ≤ 16) : mkO (n : Int) false = some (List.replicate n false) := by
 unfold mkO
 simp
 omega
section
variable {names : List ByteArray} {E : List TPair}
structure Reach (names : List ByteArray) (E : List TPair) (a j : Nat) (row : List Bool) : Prop where
 len : row.length = names.length
 self : row[a]? = some true
 way : ∀ b, row[b]? = some true → Way names E a b
 much : j + 1 ≤ row.count true ∨ ∀ b c, row[b]? = some true → ed names E b c → row[c]? = some true
theorem ref_b4 (k : Nat) (hf : fits names E) (row : List Bool) (hl : row.length = names.length) :
 ∃ next, forL (ref03_New.b4 k names) 0 E (row, row) = some (.go (next, row)) ∧ next.length = names.length ∧ ∀ b, next[b]? = some true ↔ row[b]? = some true ∨ ∃ a, row[a]? = some true ∧ ed names E a b := by
 have hd := apart_of hf.1
 obtain ⟨⟨next, row'⟩, h1, h2, h3, h4⟩ := forL_end (body := ref03_New.b4 k names) (xs := E) (s := (row, row))
  (fun i s => s.2 = row ∧ s.1.length = names.length ∧ ∀ b, s.1[b]? = some true ↔ row[b]? = some true ∨ ∃ a, row[a]? = some true ∧ ed names (E.take i) a b) ⟨rfl, hl, fun b => by simp [ed]⟩ (by
   rintro i e ⟨s, row'⟩ he ⟨hr, hlen, hb⟩
   simp only at hr hlen hb; subst hr
   obtain ⟨m1, m2⟩ := hf.2 e (List.mem_of_getElem? he)
   obtain ⟨x, hx⟩ := List.mem_iff_getElem?.1 m1
   obtain ⟨y, hy⟩ := List.mem_iff_getElem?.1 m2
   have hxl := (List.getElem?_eq_some_iff.1 hx).1
   have hyl := (List.getElem?_eq_some_iff.1 hy).1
   have hed : ∀ a b, ed names (E.take (i + 1)) a b ↔ ed names (E.take i) a b ∨ (a = x ∧ b = y) := fun a b => by
    rw [take_succ he]
    constructor
    · rintro ⟨d, hd1, hd2, hd3⟩
      rcases List.mem_append.1 hd1 with hd1 | hd1
      · exact .inl ⟨d, hd1, hd2, hd3⟩
      · obtain rfl : d = e := by simpa using hd1
        exact .inr ⟨hd _ _ _ hd2 hx, hd _ _ _ hd3 hy⟩
    · rintro (⟨d, hd1, hd2, hd3⟩ | ⟨rfl, rfl⟩)
      · exact ⟨d, List.mem_append_left _ hd1, hd2, hd3⟩
      · exact ⟨e, List.mem_append_right _ (by simp), hx, hy⟩
   obtain ⟨v, hv⟩ : ∃ v, row'[x]? = some v := ⟨_, List.getElem?_eq_getElem (by omega)⟩
   obtain ⟨w, hw⟩ : ∃ w, s[y]? = some w := ⟨_, List.getElem?_eq_getElem (by omega)⟩
   unfold ref03_New.b4
   cases v with
   | false =>
    refine ⟨(s, row'), ?_, rfl, hlen, fun b => ?_⟩
    · simp only [find_at k hd hx, Option.bind_some, getO_nat, hv, cond_false]
    · rw [hb b]
      constructor
      · rintro (h | ⟨a, h, h'⟩)
        · exact .inl h
        · exact .inr ⟨a, h, (hed a b).2 (.inl h')⟩
      · rintro (h | ⟨a, h, h'⟩)
        · exact .inl h
        · rcases (hed a b).1 h' with h' | ⟨rfl, rfl⟩
          · exact .inr ⟨a, h, h'⟩
          · rw [hv] at h; cases h
   | true =>
    refine ⟨(s.set y true, row'), ?_, rfl, by simpa using hlen, fun b => ?_⟩
    · simp only [find_at k hd hx, find_at k hd hy, Option.bind_some, getO_nat, hv, cond_true, hw, setO_nat]
    · rw [set_true (by omega) b, hb b]
      constructor
      · rintro (rfl | h | ⟨a, h, h'⟩)
        · exact .inr ⟨x, hv, (hed x b).2 (.inr ⟨rfl, rfl⟩)⟩
        · exact .inl h
        · exact .inr ⟨a, h, (hed a b).2 (.inl h')⟩
      · rintro (h | ⟨a, h, h'⟩)
        · exact .inr (.inl h)
        · rcases (hed a b).1 h' with h' | ⟨rfl, rfl⟩
          · exact .inr (.inr ⟨a, h, h'⟩)
          · exact .inl rfl)
 simp only at h2 h3 h4
 subst h2
 rw [List.take_length] at h4
 exact ⟨next, h1, h3, h4⟩
theorem ref_b3 (k : Nat) (hf : fits names E) (hn : names.length ≤ 16) {a : Nat} {row : List Bool} (h : Reach names E a 0 row) :
 ∃ row', forL (ref03_New.b3 k names E) 0 names row = some (.go row') ∧ row'.length = names.length ∧ ∀ b, row'[b]? = some true ↔ Way names E a b := by
 obtain ⟨row', h1, h2⟩ := forL_end (body := ref03_New.b3 k names E) (xs := names) (s := row) (fun i s => Reach names E a i s) h (by
  rintro i x s hx hs
  obtain ⟨next, g1, g2, g3⟩ := ref_b4 k hf s hs.len
  have hll := hs.len
  refine ⟨next, ?_, g2, (g3 a).2 (.inl hs.self), fun b hb => ?_, ?_⟩
  · unfold ref03_New.b3
    rw [lim_ok (by simp; omega)]
    simp only [Option.bind_some, List.nil_append, g1, Lr.k]
  · rcases (g3 b).1 hb with hb | ⟨c, hc, hcb⟩
    · exact hs.way b hb
    · exact (hs.way c hc).step hcb
  · by_cases hcl : ∀ b c, s[b]? = some true → ed names E b c → s[c]? = some true
    · right
      have same : ∀ b, next[b]? = some true ↔ s[b]? = some true := fun b => (g3 b).trans ⟨fun h => h.elim id fun ⟨c, hc, hcb⟩ => hcl c b hc hcb, .inl⟩
      intro b c hb hbc
      exact (same c).2 (hcl b c ((same b).1 hb) hbc)
    · left
      have hm := hs.much.resolve_right hcl
      obtain ⟨b, c, hb, hbc, hc⟩ : ∃ b c, s[b]? = some true ∧ ed names E b c ∧ ¬ s[c]? = some true := by
       refine Classical.byContradiction fun hno => hcl fun b c hb hbc => Classical.byContradiction fun hc => hno ⟨b, c, hb, hbc, hc⟩
      have := (count_grow s next (by omega) (fun b hb => (g3 b).2 (.inl hb))).2 ⟨c, (g3 c).2 (.inr ⟨b, hb, hbc⟩), hc⟩
      omega)
 have hcl : ∀ b c, row'[b]? = some true → ed names E b c → row'[c]? = some true := by
  refine h2.much.resolve_left fun h3 => ?_
  have := List.count_le_length (a := true) (l := row')
  have := h2.len
  omega
 refine ⟨row', h1, h2.len, fun b => ⟨h2.way b, fun hw => ?_⟩⟩
 induction hw with
 | refl => exact h2.self
 | step _ k ih => exact hcl _ _ ih k
theorem ref_b2 (k : Nat) (hf : fits names E) (hn : names.length ≤ 16) :
 ∃ T, forL (ref03_New.b2 k names E) 0 names ([] : List (List Bool)) = some (.go T) ∧ T.length = names.length ∧ ∀ a, a < names.length → ∃ row, T[a]? = some row ∧ row.length = names.length ∧ ∀ b, row[b]? = some true ↔ Way names E a b := by
 obtain ⟨T, h1, h2, h3⟩ := forL_end (body := ref03_New.b2 k names E) (xs := names) (s := ([] : List (List Bool)))
  (fun i T => T.length = i ∧ ∀ a, a < i → ∃ row, T[a]? = some row ∧ row.length = names.length ∧ ∀ b, row[b]? = some true ↔ Way names E a b) ⟨rfl, fun a h => absurd h (Nat.not_lt_zero _)⟩ (by
   rintro i x T hx ⟨hl, hT⟩
   have hi : i < names.length := (List.getElem?_eq_some_iff.1 hx).1
   have hset : ∀ b, ((List.replicate names.length false).set i true)[b]? = some true ↔ b = i := fun b => by
    rw [set_true (by simpa using hi) b]
    constructor
    · rintro (h | h)
      · exact h
      · rw [List.getElem?_replicate] at h
        split at h <;> cases h
    · exact .inl
   obtain ⟨row, g1, g2, g3⟩ := ref_b3 k hf hn (a := i) (row := (List.replicate names.length false).set i true) ⟨by simp, (hset i).2 rfl, fun b hb => by rw [(hset b).1 hb]; exact .refl _ hi, by
    left
    have : 0 < ((List.replicate names.length false).set i true).count true := List.count_pos_iff.2 (List.mem_of_getElem? ((hset i).2 rfl))
    omega⟩
   refine ⟨T ++ [row], ?_, by simp [hl], fun a ha => ?_⟩
   · unfold ref03_New.b2
     rw [mkO_bools hn]
     have h1 : (List.replicate names.length false)[i]? = some false := by rw [List.getElem?_replicate, if_pos hi]
     simp only [Option.bind_some, getO_nat, h1, setO_nat, g1, Lr.k, List.length_singleton]
     rw [lim_ok (by omega)]
     rfl
   · rcases Nat.lt_succ_iff_lt_or_eq.1 ha with ha | rfl
     · obtain ⟨row', r1, r2⟩ := hT a ha
       exact ⟨row', by rw [List.getElem?_append_left (by omega)]; exact r1, r2⟩
     · exact ⟨row, by rw [List.getElem?_append_right (by omega)]; simp [hl], g2, g3⟩)
 exact ⟨T, h1, h2, h3⟩
end
end Go.Proofs.YtknhbphhdfknaaaGreatDoor
set_option linter.unusedVariables false
set_option linter.unusedSimpArgs false
namespace Go.Proofs.YtknhbphhdfknaaaGreatDoor
structure RLat (n : Nat) (r : Nat → Nat → Prop) (R : Tref03_Lattice) : Prop where
 names : R.Names.length = n
 at' : ∀ a b, a < n → b < n → ∃ row v, R.Below[a]? = some row ∧ row[b]? = some v ∧ (v = true ↔ r a b)
section
variable {n : Nat} {r : Nat → Nat → Prop} {R : Tref03_Lattice}
theorem ris (k : Nat) (h : RLat n r R) (a : Int) : ref03_Lattice_Is k (some R) a = some (decide (0 ≤ a ∧ a < n)) := by
 unfold ref03_Lattice_Is
 by_cases h0 : 0 ≤ a
 · simp only [decide_eq_true h0, cond_true, optE, Option.bind_some, h.names, h0, true_and, decide_true]
 · simp only [decide_eq_false h0, cond_false, Option.bind_some, h0, false_and, decide_false]
theorem rleq (k : Nat) (h : RLat n r R) {a b : Nat} (ha : a < n) (hb : b < n) : ∃ v : Bool, ref03_Lattice_Leq k (some R) (a : Int) (b : Int) = some v ∧ (v = true ↔ r a b) := by
 obtain ⟨row, v, h1, h2, h3⟩ := h.at' a b ha hb
 refine ⟨v, ?_, h3⟩
 unfold ref03_Lattice_Leq
 simp only [ris k h, decide_eq_true (show (0 : Int) ≤ (a : Int) ∧ (a : Int) < n by omega), decide_eq_true (show (0 : Int) ≤ (b : Int) ∧ (b : Int) < n by omega), Option.bind_some, cond_true, optE, getO_nat, h1, h2]
theorem rjoin (k : Nat) (h : RLat n r R) (bd : ∀ a b, r a b → b < n) {a b : Nat} (ha : a < n) (hb : b < n) :
 (∃ c : Nat, ref03_Lattice_Join k (some R) (a : Int) (b : Int) = some (c : Int) ∧ IsJoin n r a b c) ∨ (ref03_Lattice_Join k (some R) (a : Int) (b : Int) = some (-1) ∧ ¬ ∃ c, IsJoin n r a b c) := by
 rcases forL_spec (body := ref03_Lattice_Join.b0 k (some R) (a : Int) (b : Int) R) (xs := R.Names) (s := ()) (fun i _ => ∀ c, c < i → ¬ IsJoin n r a b c) (fun x => ∃ c : Nat, x = (c : Int) ∧ IsJoin n r a b c) (fun c hc => absurd hc (Nat.not_lt_zero _)) (by
  rintro c x ⟨⟩ hx hP
  have hc : c < n := by have := (List.getElem?_eq_some_iff.1 hx).1; rw [h.names] at this; exact this
  obtain ⟨v, v1, v2⟩ := rleq k h ha hc
  obtain ⟨w, w1, w2⟩ := rleq k h hb hc
  have step : (¬ IsJoin n r a b c) → ∀ d, d < c + 1 → ¬ IsJoin n r a b d := fun hn d hd => by
   rcases Nat.lt_succ_iff_lt_or_eq.1 hd with hd | rfl
   · exact hP d hd
   · exact hn
  unfold ref03_Lattice_Join.b0 ref03_Lattice_Join.j1
  cases v with
  | false =>
   refine .inl ⟨(), ?_, step fun hj => by have := v2.2 hj.2.1; cases this⟩
   simp only [v1, Option.bind_some, Bool.not_false, cond_true]
  | true =>
   cases w with
   | false =>
    refine .inl ⟨(), ?_, step fun hj => by have := w2.2 hj.2.2.1; cases this⟩
    simp only [v1, w1, Option.bind_some, Bool.not_false, Bool.not_true, cond_true, cond_false]
   | true =>
    obtain ⟨s, s1, s2⟩ := forL_end (body := ref03_Lattice_Join.b2 k (some R) (a : Int) (b : Int) c) (xs := R.Names) (s := true) (fun i s => (s = true ↔ ∀ d, d < i → r a d → r b d → r c d)) (iff_of_true rfl fun d hd => absurd hd (Nat.not_lt_zero _)) (by
     rintro d y s hy hs
     have hd : d < n := by have := (List.getElem?_eq_some_iff.1 hy).1; rw [h.names] at this; exact this
     obtain ⟨p, p1, p2⟩ := rleq k h ha hd
     obtain ⟨q, q1, q2⟩ := rleq k h hb hd
     obtain ⟨o, o1, o2⟩ := rleq k h hc hd
     refine ⟨s && (!p || !q || o), ?_, ?_⟩
     · unfold ref03_Lattice_Join.b2
       cases p <;> cases q <;> cases o <;> cases s <;> simp only [p1, q1, o1, Option.bind_some, cond_true, cond_false, Bool.not_true, Bool.not_false] <;> rfl
     · constructor
       · intro h1 d' hd' k1 k2
         simp only [Bool.and_eq_true, Bool.or_eq_true, Bool.not_eq_true'] at h1
         rcases Nat.lt_succ_iff_lt_or_eq.1 hd' with hd' | rfl
         · exact hs.1 h1.1 d' hd' k1 k2
         · rcases h1.2 with (h2 | h2) | h2
           · rw [p2.2 k1] at h2; cases h2
           · rw [q2.2 k2] at h2; cases h2
           · exact o2.1 h2
       · intro hall
         simp only [Bool.and_eq_true, Bool.or_eq_true, Bool.not_eq_true']
         refine ⟨hs.2 fun d' hd' => hall d' (by omega), ?_⟩
         cases hp : p
         · exact .inl (.inl rfl)
         · cases hq : q
           · exact .inl (.inr rfl)
           · exact .inr (o2.2 (hall d (by omega) (p2.1 hp) (q2.1 hq))))
    rw [h.names] at s2
    cases s with
    | true =>
     refine .inr ⟨(c : Int), ?_, c, rfl, hc, v2.1 rfl, w2.1 rfl, fun d k1 k2 => s2.1 rfl d (bd _ _ k1) k1 k2⟩
     simp only [v1, w1, Option.bind_some, Bool.not_true, cond_true, cond_false, s1, Lr.k]
    | false =>
     refine .inl ⟨(), ?_, step fun hj => by have := s2.2 fun d _ k1 k2 => hj.2.2.2 d k1 k2; cases this⟩
     simp only [v1, w1, Option.bind_some, Bool.not_true, cond_true, cond_false, s1, Lr.k]) with ⟨⟨⟩, h1, h2⟩ | ⟨x, h1, c, rfl, h2⟩
 · right
   rw [h.names] at h2
   refine ⟨?_, fun ⟨c, hc⟩ => h2 c hc.1 hc⟩
   unfold ref03_Lattice_Join
   simp only [optE, h1, Option.bind_some, Lr.k]
 · left
   refine ⟨c, ?_, h2⟩
   unfold ref03_Lattice_Join
   simp only [optE, h1, Option.bind_some, Lr.k]
theorem rmeet (k : Nat) (h : RLat n r R) {a b : Nat} (ha : a < n) (hb : b < n) :
 (∃ c : Nat, ref03_Lattice_Meet k (some R) (a : Int) (b : Int) = some (c : Int) ∧ IsMeet n r a b c) ∨ (ref03_Lattice_Meet k (some R) (a : Int) (b : Int) = some (-1) ∧ ¬ ∃ c, IsMeet n r a b c) := by
 rcases forL_spec (body := ref03_Lattice_Meet.b0 k (some R) (a : Int) (b : Int) R) (xs := R.Names) (s := ()) (fun i _ => ∀ c, c < i → ¬ IsMeet n r a b c) (fun x => ∃ c : Nat, x = (c : Int) ∧ IsMeet n r a b c) (fun c hc => absurd hc (Nat.not_lt_zero _)) (by
  rintro c x ⟨⟩ hx hP
  have hc : c < n := by have := (List.getElem?_eq_some_iff.1 hx).1; rw [h.names] at this; exact this
  obtain ⟨v, v1, v2⟩ := rleq k h hc ha
  obtain ⟨w, w1, w2⟩ := rleq k h hc hb
  have step : (¬ IsMeet n r a b c) → ∀ d, d < c + 1 → ¬ IsMeet n r a b d := fun hn d hd => by
   rcases Nat.lt_succ_iff_lt_or_eq.1 hd with hd | rfl
   · exact hP d hd
   · exact hn
  unfold ref03_Lattice_Meet.b0 ref03_Lattice_Meet.j1
  cases v with
  | false =>
   refine .inl ⟨(), ?_, step fun hj => by have := v2.2 hj.2.1; cases this⟩
   simp only [v1, Option.bind_some, Bool.not_false, cond_true]
  | true =>
   cases w with
   | false =>
    refine .inl ⟨(), ?_, step fun hj => by have := w2.2 hj.2.2.1; cases this⟩
    simp only [v1, w1, Option.bind_some, Bool.not_false, Bool.not_true, cond_true, cond_false]
   | true =>
    obtain ⟨s, s1, s2⟩ := forL_end (body := ref03_Lattice_Meet.b2 k (some R) (a : Int) (b : Int) c) (xs := R.Names) (s := true) (fun i s => (s = true ↔ ∀ d, d < i → r d a → r d b → r d c)) (iff_of_true rfl fun d hd => absurd hd (Nat.not_lt_zero _)) (by
     rintro d y s hy hs
     have hd : d < n := by have := (List.getElem?_eq_some_iff.1 hy).1; rw [h.names] at this; exact this
     obtain ⟨p, p1, p2⟩ := rleq k h hd ha
     obtain ⟨q, q1, q2⟩ := rleq k h hd hb
     obtain ⟨o, o1, o2⟩ := rleq k h hd hc
     refine ⟨s && (!p || !q || o), ?_, ?_⟩
     · unfold ref03_Lattice_Meet.b2
       cases p <;> cases q <;> cases o <;> cases s <;> simp only [p1, q1, o1, Option.bind_some, cond_true, cond_false, Bool.not_true, Bool.not_false] <;> rfl
     · constructor
       · intro h1 d' hd' k1 k2
         simp only [Bool.and_eq_true, Bool.or_eq_true, Bool.not_eq_true'] at h1
         rcases Nat.lt_succ_iff_lt_or_eq.1 hd' with hd' | rfl
         · exact hs.1 h1.1 d' hd' k1 k2
         · rcases h1.2 with (h2 | h2) | h2
           · rw [p2.2 k1] at h2; cases h2
           · rw [q2.2 k2] at h2; cases h2
           · exact o2.1 h2
       · intro hall
         simp only [Bool.and_eq_true, Bool.or_eq_true, Bool.not_eq_true']
         refine ⟨hs.2 fun d' hd' => hall d' (by omega), ?_⟩
         cases hp : p
         · exact .inl (.inl rfl)
         · cases hq : q
           · exact .inl (.inr rfl)
           · exact .inr (o2.2 (hall d (by omega) (p2.1 hp) (q2.1 hq))))
    rw [h.names] at s2
    cases s with
    | true =>
     refine .inr ⟨(c : Int), ?_, c, rfl, hc, v2.1 rfl, w2.1 rfl, fun d hd k1 k2 => s2.1 rfl d hd k1 k2⟩
     simp only [v1, w1, Option.bind_some, Bool.not_true, cond_true, cond_false, s1, Lr.k]
    | false =>
     refine .inl ⟨(), ?_, step fun hj => by have := s2.2 fun d hd k1 k2 => hj.2.2.2 d hd k1 k2; cases this⟩
     simp only [v1, w1, Option.bind_some, Bool.not_true, cond_true, cond_false, s1, Lr.k]) with ⟨⟨⟩, h1, h2⟩ | ⟨x, h1, c, rfl, h2⟩
 · right
   rw [h.names] at h2
   refine ⟨?_, fun ⟨c, hc⟩ => h2 c hc.1 hc⟩
   unfold ref03_Lattice_Meet
   simp only [optE, h1, Option.bind_some, Lr.k]
 · left
   refine ⟨c, ?_, h2⟩
   unfold ref03_Lattice_Meet
   simp only [optE, h1, Option.bind_some, Lr.k]
end
end Go.Proofs.YtknhbphhdfknaaaGreatDoor
set_option linter.unusedVariables false
set_option linter.unusedSimpArgs false
namespace Go.Proofs.YtknhbphhdfknaaaGreatDoor
section
variable {names : List ByteArray} {E : List TPair}
theorem rnew_b6 (k : Nat) : (forL (ref03_New.b6 k names) 0 names () = some (.go ()) ∧ ∀ j x, names[j]? = some x → ¬ nmBad names j x) ∨ (forL (ref03_New.b6 k names) 0 names () = some (.ret (none, 11)) ∧ ∃ j x, names[j]? = some x ∧ nmBad names j x) := by
 rcases forL_spec (body := ref03_New.b6 k names) (xs := names) (s := ()) (fun i _ => ∀ j x, j < i → names[j]? = some x → ¬ nmBad names j x) (fun y => y = (none, 11) ∧ ∃ j x, names[j]? = some x ∧ nmBad names j x) (fun j _ hj => absurd hj (Nat.not_lt_zero _)) (by
  rintro j x ⟨⟩ hx hP
  have hj := (List.getElem?_eq_some_iff.1 hx).1
  unfold ref03_New.b6
  have c2 : cutO names (0 : Int) (j : Int) = some (names.take j) := by unfold cutO; rw [if_pos (by omega)]; simp
  obtain ⟨v, v1, v2⟩ := find_neg k (names.take j) x
  have hbad : nmBad names j x ↔ (x = (⟨#[]⟩ : ByteArray) ∨ (30 : Int) < (x.size : Int) ∨ 0 ≤ v) := by
   unfold nmBad
   have : x ∈ names.take j ↔ 0 ≤ v := by
    constructor
    · intro h; exact Classical.byContradiction fun h1 => absurd h (v2.1 (by omega))
    · intro h; exact Classical.byContradiction fun h1 => by have := v2.2 h1; omega
   rw [this]
  by_cases hb : nmBad names j x
  · refine .inr ⟨(none, 11), ?_, rfl, j, x, hx, hb⟩
    rcases hbad.1 hb with h | h | h
    · simp only [decide_eq_true h, cond_true, Option.bind_some]
    · by_cases h0 : x = (⟨#[]⟩ : ByteArray)
      · simp only [decide_eq_true h0, cond_true, Option.bind_some]
      · simp only [decide_eq_false h0, decide_eq_true h, cond_true, cond_false, Option.bind_some]
    · by_cases h0 : x = (⟨#[]⟩ : ByteArray)
      · simp only [decide_eq_true h0, cond_true, Option.bind_some]
      · by_cases h1 : (30 : Int) < (x.size : Int)
        · simp only [decide_eq_false h0, decide_eq_true h1, cond_true, cond_false, Option.bind_some]
        · simp only [decide_eq_false h0, decide_eq_false h1, c2, v1, decide_eq_true h, cond_true, cond_false, Option.bind_some]
  · refine .inl ⟨(), ?_, fun i y hi hy => ?_⟩
    · have h3 := mt hbad.2 hb
      have h0 : ¬ x = (⟨#[]⟩ : ByteArray) := fun h => h3 (.inl h)
      have h1 : ¬ (30 : Int) < (x.size : Int) := fun h => h3 (.inr (.inl h))
      have h2 : ¬ 0 ≤ v := fun h => h3 (.inr (.inr h))
      simp only [decide_eq_false h0, decide_eq_false h1, c2, v1, decide_eq_false h2, cond_false, Option.bind_some]
    · rcases Nat.lt_succ_iff_lt_or_eq.1 hi with hi | rfl
      · exact hP i y hi hy
      · rw [hx] at hy; cases hy; exact hb) with ⟨⟨⟩, h1, h2⟩ | ⟨y, h1, rfl, h2⟩
 · exact .inl ⟨h1, fun j x hj => h2 j x (List.getElem?_eq_some_iff.1 hj).1 hj⟩
 · exact .inr ⟨h1, h2⟩
theorem rnew_b5 (k : Nat) : (forL (ref03_New.b5 k names) 0 E () = some (.go ()) ∧ ∀ e, e ∈ E → e.Low ∈ names ∧ e.High ∈ names) ∨ (forL (ref03_New.b5 k names) 0 E () = some (.ret (none, 11)) ∧ ∃ e, e ∈ E ∧ ¬ (e.Low ∈ names ∧ e.High ∈ names)) := by
 rcases forL_spec (body := ref03_New.b5 k names) (xs := E) (s := ()) (fun i _ => ∀ e, e ∈ E.take i → e.Low ∈ names ∧ e.High ∈ names) (fun y => y = (none, 11) ∧ ∃ e, e ∈ E ∧ ¬ (e.Low ∈ names ∧ e.High ∈ names)) (by simp) (by
  rintro j e ⟨⟩ he hP
  unfold ref03_New.b5
  obtain ⟨v, v1, v2⟩ := find_neg k names e.Low
  obtain ⟨w, w1, w2⟩ := find_neg k names e.High
  by_cases hv : v < 0
  · refine .inr ⟨(none, 11), ?_, rfl, e, List.mem_of_getElem? he, fun h => v2.1 hv h.1⟩
    simp only [v1, Option.bind_some, decide_eq_true hv, cond_true]
  · by_cases hw : w < 0
    · refine .inr ⟨(none, 11), ?_, rfl, e, List.mem_of_getElem? he, fun h => w2.1 hw h.2⟩
      simp only [v1, w1, Option.bind_some, decide_eq_false hv, decide_eq_true hw, cond_true, cond_false]
    · refine .inl ⟨(), ?_, fun d hd => ?_⟩
      · simp only [v1, w1, Option.bind_some, decide_eq_false hv, decide_eq_false hw, cond_false]
      · rw [take_succ he] at hd
        rcases List.mem_append.1 hd with hd | hd
        · exact hP d hd
        · rw [List.mem_singleton.1 hd]
          exact ⟨Classical.byContradiction fun h => hv (v2.2 h), Classical.byContradiction fun h => hw (w2.2 h)⟩) with ⟨⟨⟩, h1, h2⟩ | ⟨y, h1, rfl, h2⟩
 · exact .inl ⟨h1, by simpa using h2⟩
 · exact .inr ⟨h1, h2⟩
theorem rnew_b0 (k : Nat) {T : List (List Bool)} (h : RLat names.length (Way names E) ⟨([] : List ByteArray) ++ names, T⟩) :
 (forL (ref03_New.b0 k names) 0 names T = some (.go T) ∧ ∀ a b, a < names.length → b < names.length → ¬ Poor names.length (Way names E) a b) ∨
 (forL (ref03_New.b0 k names) 0 names T = some (.ret (none, 12)) ∧ ∃ a b, a < names.length ∧ b < names.length ∧ Poor names.length (Way names E) a b) := by
 rcases forL_spec (body := ref03_New.b0 k names) (xs := names) (s := T) (fun i s => s = T ∧ ∀ a b, a < i → b < names.length → ¬ Poor names.length (Way names E) a b) (fun y => y = (none, 12) ∧ ∃ a b, a < names.length ∧ b < names.length ∧ Poor names.length (Way names E) a b) ⟨rfl, fun a b ha => absurd ha (Nat.not_lt_zero _)⟩ (by
  rintro i x s hx ⟨rfl, hP⟩
  have hi : i < names.length := (List.getElem?_eq_some_iff.1 hx).1
  unfold ref03_New.b0
  rcases forL_spec (body := ref03_New.b1 k i names) (xs := names) (s := s) (fun j s' => s' = s ∧ ∀ b, b < j → ¬ Poor names.length (Way names E) i b) (fun y => y = (none, 12) ∧ ∃ a b, a < names.length ∧ b < names.length ∧ Poor names.length (Way names E) a b) ⟨rfl, fun b hb => absurd hb (Nat.not_lt_zero _)⟩ (by
   rintro j y s' hy ⟨rfl, hQ⟩
   have hj : j < names.length := (List.getElem?_eq_some_iff.1 hy).1
   obtain ⟨row, v, r1, r2, r3⟩ := h.at' i j hi hj
   obtain ⟨row', w, q1, q2, q3⟩ := h.at' j i hj hi
   simp only at r1 q1
   have fail : Poor names.length (Way names E) i j → ∃ a b, a < names.length ∧ b < names.length ∧ Poor names.length (Way names E) a b := fun hp => ⟨i, j, hi, hj, hp⟩
   have good : (¬ Poor names.length (Way names E) i j) → ∀ b, b < j + 1 → ¬ Poor names.length (Way names E) i b := fun hn b hb => by
    rcases Nat.lt_succ_iff_lt_or_eq.1 hb with hb | rfl
    · exact hQ b hb
    · exact hn
   unfold ref03_New.b1
   have cond1 : ∃ c : Bool, (bif !decide ((i : Int) = (j : Int)) then ((getO s' (i : Int)).bind fun y4148 => ((getO y4148 (j : Int)).bind fun y4158 => (bif y4158 then ((getO s' (j : Int)).bind fun y4166 => ((getO y4166 (i : Int)).bind fun y4176 => some (s', y4176))) else some (s', false)))) else some (s', false)) = some (s', c) ∧ (c = true ↔ i ≠ j ∧ Way names E i j ∧ Way names E j i) := by
    by_cases hij : i = j
    · refine ⟨false, ?_, iff_of_false (by simp) fun h => h.1 hij⟩
      simp only [hij, decide_true, Bool.not_true, cond_false]
    · refine ⟨v && w, ?_, ?_⟩
      · have : ¬ (i : Int) = (j : Int) := by omega
        cases v <;> simp only [decide_eq_false this, Bool.not_false, cond_true, cond_false, getO_nat, r1, r2, q1, q2, Option.bind_some, Bool.true_and, Bool.false_and]
      · rw [Bool.and_eq_true, r3, q3]
        exact ⟨fun h => ⟨hij, h.1, h.2⟩, fun h => h.2⟩
   obtain ⟨c, c1, c2⟩ := cond1
   simp only [c1, Option.bind_some]
   cases c with
   | true =>
    refine .inr ⟨(none, 12), by simp only [cond_true], rfl, fail (.inl (c2.1 rfl))⟩
   | false =>
    simp only [cond_false]
    have h12 : ¬ (i ≠ j ∧ Way names E i j ∧ Way names E j i) := fun h => by have := c2.2 h; cases this
    rcases rjoin k h (fun a b hab => (way_lt hab).2) hi hj with ⟨m, m1, m2⟩ | ⟨m1, m2⟩
    · rcases rmeet k h hi hj with ⟨o, o1, o2⟩ | ⟨o1, o2⟩
      · refine .inl ⟨s', ?_, rfl, good ?_⟩
        · simp only [m1, o1, Option.bind_some, decide_eq_false (show ¬ (m : Int) < 0 by omega), decide_eq_false (show ¬ (o : Int) < 0 by omega), cond_false]
        · rintro (h | h | h)
          · exact h12 h
          · exact h ⟨m, m2⟩
          · exact h ⟨o, o2⟩
      · refine .inr ⟨(none, 12), ?_, rfl, fail (.inr (.inr o2))⟩
        simp only [m1, o1, Option.bind_some, decide_eq_false (show ¬ (m : Int) < 0 by omega), decide_eq_true (show (-1 : Int) < 0 by omega), cond_false, cond_true]
    · refine .inr ⟨(none, 12), ?_, rfl, fail (.inr (.inl m2))⟩
      simp only [m1, Option.bind_some, decide_eq_true (show (-1 : Int) < 0 by omega), cond_true]) with ⟨_, g1, rfl, g2⟩ | ⟨y, g1, rfl, g2⟩
  · refine .inl ⟨_, by simp only [g1, Option.bind_some, Lr.k], rfl, fun a b ha hb => ?_⟩
    rcases Nat.lt_succ_iff_lt_or_eq.1 ha with ha | rfl
    · exact hP a b ha hb
    · exact g2 b hb
  · exact .inr ⟨(none, 12), by simp only [g1, Option.bind_some, Lr.k], rfl, g2⟩) with ⟨_, h1, rfl, h2⟩ | ⟨y, h1, rfl, h2⟩
 · exact .inl ⟨h1, h2⟩
 · exact .inr ⟨h1, h2⟩
end
theorem rnew_all (k : Nat) (names : List ByteArray) (E : List TPair) (hn : names.length ≤ 16) (hE : E.length ≤ 64) :
 (∃ R, ref03_New k names E = some (some R, 0) ∧ RLat names.length (Way names E) R ∧ fits names E ∧ 0 < names.length ∧ (∀ a b, a < names.length → b < names.length → ¬ Poor names.length (Way names E) a b) ∧ R.Names = names) ∨
 (ref03_New k names E = some (none, 12) ∧ fits names E ∧ (names.length = 0 ∨ ∃ a b, a < names.length ∧ b < names.length ∧ Poor names.length (Way names E) a b)) ∨
 (ref03_New k names E = some (none, 11) ∧ ¬ fits names E) := by
 have h16 : decide ((16 : Int) < (names.length : Int)) = false := decide_eq_false (by omega)
 have h64 : decide ((64 : Int) < (E.length : Int)) = false := decide_eq_false (by omega)
 unfold ref03_New
 rcases rnew_b6 (names := names) k with ⟨h1, h2⟩ | ⟨h1, j, x, h2, h3⟩
 · rcases rnew_b5 (names := names) (E := E) k with ⟨g1, g2⟩ | ⟨g1, e, g2, g3⟩
   · have hf : fits names E := ⟨h2, g2⟩
     obtain ⟨T, t1, t2, t3⟩ := ref_b2 k hf hn
     simp only [h16, h64, cond_false, Option.bind_some, h1, g1, t1, Lr.k, List.length_nil, Nat.zero_add, lim_ok (show names.length ≤ 4294967296 by omega)]
     by_cases h0 : names.length = 0
     · refine .inr (.inl ⟨?_, hf, .inl h0⟩)
       simp only [decide_eq_true (show (names.length : Int) = 0 by omega), cond_true]
     · have hR : RLat names.length (Way names E) ⟨([] : List ByteArray) ++ names, T⟩ := ⟨by simp, fun a b ha hb => by
        obtain ⟨row, r1, r2, r3⟩ := t3 a ha
        refine ⟨row, row[b]'(by omega), r1, List.getElem?_eq_getElem (by omega), ?_⟩
        rw [← r3 b, List.getElem?_eq_getElem (by omega), Option.some_inj]⟩
       have h00 : decide ((names.length : Int) = 0) = false := decide_eq_false (by omega)
       rcases rnew_b0 (names := names) k hR with ⟨q1, q2⟩ | ⟨q1, q2⟩
       · refine .inl ⟨_, ?_, hR, hf, by omega, q2, by simp⟩
         simp only [h00, cond_false, q1, Option.bind_some, Lr.k]
       · refine .inr (.inl ⟨?_, hf, .inr q2⟩)
         simp only [h00, cond_false, q1, Option.bind_some, Lr.k]
   · refine .inr (.inr ⟨?_, fun h => g3 (h.2 e g2)⟩)
     simp only [h16, h64, cond_false, Option.bind_some, h1, g1, Lr.k]
 · refine .inr (.inr ⟨?_, fun h => h.1 j x h2 h3⟩)
   simp only [h16, h64, cond_false, Option.bind_some, h1, Lr.k]
theorem rnew_many (k : Nat) (names : List ByteArray) (E : List TPair) (h : 16 < names.length ∨ 64 < E.length) : ref03_New k names E = some (none, 8) := by
 unfold ref03_New
 by_cases h1 : 16 < names.length
 · rw [decide_eq_true (show (16 : Int) < (names.length : Int) by omega)]; rfl
 · have h2 : 64 < E.length := h.resolve_left h1
   rw [decide_eq_false (show ¬ (16 : Int) < (names.length : Int) by omega), decide_eq_true (show (64 : Int) < (E.length : Int) by omega)]; rfl
theorem news (k : Nat) (hk : 1048577 ≤ k) (names : List ByteArray) (E : List TPair) :
 (∃ L R, lattice_New k names E = some (some L, 0) ∧ ref03_New k names E = some (some R, 0) ∧ Lat names.length (Way names E) L ∧ RLat names.length (Way names E) R ∧ L.names_ = names ∧ L.at_ = atL 0 names ∧ fits names E ∧ R.Names = names) ∨
 (∃ e : Int, e ≠ 0 ∧ lattice_New k names E = some (none, e) ∧ ref03_New k names E = some (none, e)) := by
 by_cases hs : names.length ≤ 16 ∧ E.length ≤ 64
 · rcases new_all k hk names E hs.1 hs.2 with ⟨L, g1, g2, g4, g5, g3⟩ | ⟨g1, g2, g3⟩ | ⟨g1, g2⟩ <;>
   rcases rnew_all k names E hs.1 hs.2 with ⟨M, k1, k2, k3, k4, k5, k6⟩ | ⟨k1, k2, k3⟩ | ⟨k1, k2⟩
   · exact .inl ⟨L, M, g1, k1, g2, k2, g4, g5, g3, k6⟩
   · exfalso
     rcases k3 with k3 | ⟨a, b, ha, hb, hp⟩
     · exact absurd g2.pos (by omega)
     · exact g2.rich ha hb hp
   · exact absurd g3 k2
   · exfalso
     rcases g3 with g3 | ⟨a, b, ha, hb, hp⟩
     · omega
     · exact k5 a b ha hb hp
   · exact .inr ⟨12, by decide, g1, k1⟩
   · exact absurd g2 k2
   · exact absurd k3 g2
   · exact absurd k2 g2
   · exact .inr ⟨11, by decide, g1, k1⟩
 · exact .inr ⟨8, by decide, new_many k names E (by omega), rnew_many k names E (by omega)⟩
end Go.Proofs.YtknhbphhdfknaaaGreatDoor
set_option linter.unusedVariables false
set_option linter.unusedSimpArgs false
namespace Go.Proofs.YtknhbphhdfknaaaGreatDoor
section
variable {n : Nat} {r : Nat → Nat → Prop} {L : Tlattice_Lattice} {R : Tref03_Lattice}
theorem is_any (k : Nat) (h : Lat n r L) (a : Int) : lattice_Lattice_is k (some L) a = some (decide (0 ≤ a ∧ a < n)) := by
 unfold lattice_Lattice_is
 by_cases h0 : 0 ≤ a
 · simp only [Option.isNone_some, Bool.not_false, cond_true, decide_eq_true h0, optE, h.names, Option.bind_some, h0, true_and, decide_true]
 · simp only [Option.isNone_some, Bool.not_false, cond_true, decide_eq_false h0, cond_false, Option.bind_some, h0, false_and, decide_false]
theorem leq_any (k : Nat) (hL : Lat n r L) (hR : RLat n r R) (a b : Int) : ∃ v, lattice_Lattice_Leq k (some L) a b = some v ∧ ref03_Lattice_Leq k (some R) a b = some v := by
 by_cases ha : 0 ≤ a ∧ a < n
 · by_cases hb : 0 ≤ b ∧ b < n
   · obtain ⟨x, rfl⟩ : ∃ x : Nat, a = (x : Int) := ⟨a.toNat, by omega⟩
     obtain ⟨y, rfl⟩ : ∃ y : Nat, b = (y : Int) := ⟨b.toNat, by omega⟩
     obtain ⟨v, v1, v2⟩ := leq_in k hL (a := x) (b := y) (by omega) (by omega)
     obtain ⟨w, w1, w2⟩ := rleq k hR (a := x) (b := y) (by omega) (by omega)
     have : v = w := by simpa using beq_of_iff v2 w2
     exact ⟨v, v1, this ▸ w1⟩
   · refine ⟨false, ?_, ?_⟩
     · unfold lattice_Lattice_Leq; simp only [is_any k hL, decide_eq_true ha, decide_eq_false hb, Option.bind_some, cond_true, cond_false]
     · unfold ref03_Lattice_Leq; simp only [ris k hR, decide_eq_true ha, decide_eq_false hb, Option.bind_some, cond_true, cond_false]
 · refine ⟨false, ?_, ?_⟩
   · unfold lattice_Lattice_Leq; simp only [is_any k hL, decide_eq_false ha, Option.bind_some, cond_false]
   · unfold ref03_Lattice_Leq; simp only [ris k hR, decide_eq_false ha, Option.bind_some, cond_false]
theorem rleq_out (k : Nat) (hR : RLat n r R) {a b : Int} (h : ¬ (0 ≤ a ∧ a < n) ∨ ¬ (0 ≤ b ∧ b < n)) : ref03_Lattice_Leq k (some R) a b = some false := by
 unfold ref03_Lattice_Leq
 by_cases ha : 0 ≤ a ∧ a < n
 · simp only [ris k hR, decide_eq_true ha, decide_eq_false (h.resolve_left fun h => h ha), Option.bind_some, cond_true, cond_false]
 · simp only [ris k hR, decide_eq_false ha, Option.bind_some, cond_false]
theorem rleq_some (k : Nat) (hR : RLat n r R) (a b : Int) : ∃ v, ref03_Lattice_Leq k (some R) a b = some v := by
 by_cases h : (0 ≤ a ∧ a < n) ∧ (0 ≤ b ∧ b < n)
 · obtain ⟨x, rfl⟩ : ∃ x : Nat, a = (x : Int) := ⟨a.toNat, by omega⟩
   obtain ⟨y, rfl⟩ : ∃ y : Nat, b = (y : Int) := ⟨b.toNat, by omega⟩
   obtain ⟨w, w1, _⟩ := rleq k hR (a := x) (b := y) (by omega) (by omega)
   exact ⟨w, w1⟩
 · exact ⟨false, rleq_out k hR (by omega)⟩
theorem join_any (k : Nat) (hL : Lat n r L) (hR : RLat n r R) (bd : ∀ a b, r a b → b < n) (a b : Int) : ∃ v, lattice_Lattice_Join k (some L) a b = some v ∧ ref03_Lattice_Join k (some R) a b = some v := by
 by_cases h : (0 ≤ a ∧ a < n) ∧ (0 ≤ b ∧ b < n)
 · obtain ⟨x, rfl⟩ : ∃ x : Nat, a = (x : Int) := ⟨a.toNat, by omega⟩
   obtain ⟨y, rfl⟩ : ∃ y : Nat, b = (y : Int) := ⟨b.toNat, by omega⟩
   obtain ⟨c, c1, c2⟩ := join_in k hL (a := x) (b := y) (by omega) (by omega)
   rcases rjoin k hR bd (a := x) (b := y) (by omega) (by omega) with ⟨d, d1, d2⟩ | ⟨_, d2⟩
   · exact ⟨c, c1, by rw [hL.joinu c2 d2]; exact d1⟩
   · exact (d2 ⟨c, c2⟩).elim
 · refine ⟨-1, ?_, ?_⟩
   · unfold lattice_Lattice_Join
     by_cases ha : 0 ≤ a ∧ a < n
     · simp only [is_any k hL, decide_eq_true ha, decide_eq_false (show ¬ (0 ≤ b ∧ b < n) from fun hb => h ⟨ha, hb⟩), Option.bind_some, Bool.not_true, Bool.not_false, cond_true, cond_false]
     · simp only [is_any k hL, decide_eq_false ha, Option.bind_some, Bool.not_false, cond_true]
   · obtain ⟨⟨⟩, h1, _⟩ := forL_end (body := ref03_Lattice_Join.b0 k (some R) a b R) (xs := R.Names) (s := ()) (fun _ _ => True) trivial (by
      rintro j x ⟨⟩ hx _
      refine ⟨(), ?_, trivial⟩
      unfold ref03_Lattice_Join.b0 ref03_Lattice_Join.j1
      by_cases ha : 0 ≤ a ∧ a < n
      · have hb : ¬ (0 ≤ b ∧ b < n) := fun hb => h ⟨ha, hb⟩
        obtain ⟨v, v1⟩ := rleq_some k hR a (j : Int)
        rw [v1, rleq_out k hR (.inl hb)]
        cases v <;> simp only [Option.bind_some, Bool.not_true, Bool.not_false, cond_true, cond_false]
      · simp only [rleq_out k hR (.inl ha), Option.bind_some, Bool.not_false, cond_true])
     unfold ref03_Lattice_Join
     simp only [optE, h1, Option.bind_some, Lr.k]
end
end Go.Proofs.YtknhbphhdfknaaaGreatDoor
set_option linter.unusedVariables false
set_option linter.unusedSimpArgs false
set_option maxRecDepth 100000
namespace Go.Proofs.YtknhbphhdfknaaaGreatDoor
theorem cix_some : ∀ {l : List TCol} {i j : Nat} {s : ByteArray}, cix l i s = some j → i ≤ j ∧ j < i + l.length
 | [], _, _, _, h => by cases h
 | c :: l, i, j, s, h => by
  simp only [cix] at h
  split at h
  · cases h; simp only [List.length_cons]; omega
  · have := cix_some h; simp only [List.length_cons]; omega
def colI (cols : List TCol) (s : ByteArray) : Int := match cix cols 0 s with
 | some j => (j : Int)
 | none => -1
theorem col_loop (k : Nat) (s : ByteArray) : ∀ (l : List TCol) (i : Nat), forL (ref08_Col.b0 k s) i l () = some (match cix l i s with
  | some j => .ret (j : Int)
  | none => .go ())
 | [], i => rfl
 | c :: l, i => by
  rw [forL]
  unfold ref08_Col.b0
  by_cases h : c.Name = s
  · rw [decide_eq_true h]; simp only [cix, if_pos h, cond_true, Option.bind_some]
  · have := col_loop k s l (i + 1)
    unfold ref08_Col.b0 at this
    rw [decide_eq_false h]; simp only [cix, if_neg h, cond_false, Option.bind_some]
    exact this
theorem col_eq (k : Nat) (l : List TCol) (s : ByteArray) : ref08_Col k l s = some (colI l s) := by
 unfold ref08_Col colI
 rw [col_loop]
 cases cix l 0 s <;> rfl
theorem colI_in {l : List TCol} {s : ByteArray} (h : ¬ colI l s < 0) : colI l s < l.length ∧ colI l s = cixI l s := by
 unfold colI cixI at *
 cases hc : cix l 0 s with
 | none => rw [hc] at h; exact absurd (by decide) h
 | some j =>
  have := cix_some hc
  exact ⟨by show (j : Int) < _; omega, rfl⟩
def lvr (names : List ByteArray) (x : ByteArray) : Int := (mget (atL 0 names) x).getD (-1)
theorem lvr_in {names : List ByteArray} {x : ByteArray} (h : ¬ lvr names x < 0) : x ∈ names ∧ lvr names x = lv names x := by
 unfold lvr lv at *
 cases hm : mget (atL 0 names) x with
 | none => rw [hm] at h; exact absurd (by decide) h
 | some v => exact ⟨mem_of_isSome (by rw [hm]; rfl), rfl⟩
def RP (t : TTable) : Nat → TExpr → Prop
 | 0, _ => False
 | m + 1, x => (∀ y, y ∈ x.Kids → RP t m y) ∧ (x.Kind = 5 → ¬ colI t.Cols x.S < 0) ∧ ((1 ≤ x.Kind ∧ x.Kind ≤ 5 ∧ x.Kids.length = 0) ∨ ((x.Kind = 8 ∨ x.Kind = 9) ∧ x.Kids.length = 1) ∨ (x.Kind = 11 ∧ x.Kids.length = 3) ∨ (x.Kind = 10 ∧ x.Kids.length = 2))
section
variable (k : Nat) (t : TTable)
theorem kids_tot (x : TExpr) : Tot (ref08_kids k x) fun n => (n : Int) = x.Kids.length → ((1 ≤ x.Kind ∧ x.Kind ≤ 5 ∧ x.Kids.length = 0) ∨ ((x.Kind = 8 ∨ x.Kind = 9) ∧ x.Kids.length = 1) ∨ (x.Kind = 11 ∧ x.Kids.length = 3) ∨ (x.Kind = 10 ∧ x.Kids.length = 2)) := by
 unfold ref08_kids
 refine Tot.bind (Tot.dec (fun h1 => Tot.ret (Tot.dec (fun h2 => Tot.ret fun h => .inl ⟨h1, h2, by omega⟩) (fun h2 => ?_))) (fun h1 => Tot.ret ?_))
 · refine Tot.bind (Tot.dec (fun h3 => Tot.ret (Tot.ret fun h => .inr (.inl ⟨.inl h3, by omega⟩))) (fun h3 => Tot.ret (Tot.dec (fun h4 => Tot.ret fun h => .inr (.inl ⟨.inr h4, by omega⟩)) (fun h4 => ?_))))
   refine Tot.dec (fun h5 => Tot.ret fun h => .inr (.inr (.inl ⟨h5, by omega⟩))) (fun h5 => ?_)
   refine Tot.bind (Tot.dec (fun h6 => ?_) (fun h6 => Tot.ret (Tot.ret fun h => by omega)))
   have e : ∀ b : Bool, Tot (bif b then some (2 : Int) else some (-1)) fun n => (n : Int) = x.Kids.length → ((1 ≤ x.Kind ∧ x.Kind ≤ 5 ∧ x.Kids.length = 0) ∨ ((x.Kind = 8 ∨ x.Kind = 9) ∧ x.Kids.length = 1) ∨ (x.Kind = 11 ∧ x.Kids.length = 3) ∨ (x.Kind = 10 ∧ x.Kids.length = 2)) := fun b =>
    Tot.cond (fun _ => Tot.ret fun h => .inr (.inr (.inr ⟨h6, by omega⟩))) (fun _ => Tot.ret fun h => by omega)
   exact Tot.dec (fun _ => Tot.ret (e _)) fun _ => Tot.dec (fun _ => Tot.ret (e _)) fun _ => Tot.dec (fun _ => Tot.ret (e _)) fun _ => Tot.dec (fun _ => Tot.ret (e _)) fun _ => Tot.dec (fun _ => Tot.ret (e _)) fun _ => Tot.dec (fun _ => Tot.ret (e _)) fun _ => Tot.dec (fun _ => Tot.ret (e _)) fun _ => Tot.ret (e _)
 · refine Tot.bind (Tot.dec (fun h3 => Tot.ret (Tot.ret fun h => .inr (.inl ⟨.inl h3, by omega⟩))) (fun h3 => Tot.ret (Tot.dec (fun h4 => Tot.ret fun h => .inr (.inl ⟨.inr h4, by omega⟩)) (fun h4 => ?_))))
   refine Tot.dec (fun h5 => Tot.ret fun h => .inr (.inr (.inl ⟨h5, by omega⟩))) (fun h5 => ?_)
   refine Tot.bind (Tot.dec (fun h6 => ?_) (fun h6 => Tot.ret (Tot.ret fun h => by omega)))
   have e : ∀ b : Bool, Tot (bif b then some (2 : Int) else some (-1)) fun n => (n : Int) = x.Kids.length → ((1 ≤ x.Kind ∧ x.Kind ≤ 5 ∧ x.Kids.length = 0) ∨ ((x.Kind = 8 ∨ x.Kind = 9) ∧ x.Kids.length = 1) ∨ (x.Kind = 11 ∧ x.Kids.length = 3) ∨ (x.Kind = 10 ∧ x.Kids.length = 2)) := fun b =>
    Tot.cond (fun _ => Tot.ret fun h => .inr (.inr (.inr ⟨h6, by omega⟩))) (fun _ => Tot.ret fun h => by omega)
   exact Tot.dec (fun _ => Tot.ret (e _)) fun _ => Tot.dec (fun _ => Tot.ret (e _)) fun _ => Tot.dec (fun _ => Tot.ret (e _)) fun _ => Tot.dec (fun _ => Tot.ret (e _)) fun _ => Tot.dec (fun _ => Tot.ret (e _)) fun _ => Tot.dec (fun _ => Tot.ret (e _)) fun _ => Tot.dec (fun _ => Tot.ret (e _)) fun _ => Tot.ret (e _)
theorem rshape_tot : ∀ (m k : Nat) (x : TExpr) (d : Int), d = 41 - (m : Int) → m ≤ 41 → m < k → Tot (ref08_Shape k t x d) fun b => b = true → RP t m x
 | m, 0, x, d, hd, hm, hk => by omega
 | 0, k + 1, x, d, hd, hm, hk => by
  show Tot (ref08_Shape.F k (ref08_Shape k) t x d) _
  unfold ref08_Shape.F
  rw [decide_eq_true (show (40 : Int) < d by omega)]
  exact Tot.ret fun h => by cases h
 | m + 1, k + 1, x, d, hd, hm, hk => by
  show Tot (ref08_Shape.F k (ref08_Shape k) t x d) _
  unfold ref08_Shape.F
  have no : Tot (some false) fun b => b = true → RP t (m + 1) x := Tot.ret fun h => by cases h
  refine Tot.bind (Tot.dec (fun _ => Tot.ret no) (fun _ => Tot.dec (fun _ => Tot.ret no) (fun _ => Tot.to (kids_tot k x) fun n hn => Tot.ret (Tot.ndec (fun _ => no) (fun he => ?_)))))
  have hkids := hn he
  refine Tot.any ?_ fun f => Tot.cond (fun _ => no) (fun _ => ?_)
  · refine Tot.dec (fun _ => Tot.ndec (fun _ => Tot.ndec (fun _ => Tot.ret trivial) (fun _ => Tot.dec (fun _ => Tot.ret trivial) fun _ => Tot.ret trivial)) (fun _ => Tot.dec (fun _ => Tot.ret trivial) fun _ => Tot.ret trivial)) (fun _ => Tot.dec (fun _ => Tot.ret trivial) fun _ => Tot.ret trivial)
  · rw [col_eq, Option.bind_some]
    have fin : (x.Kind = 5 → ¬ colI t.Cols x.S < 0) → Tot ((forL (ref08_Shape.b0 k (ref08_Shape k) t d) 0 x.Kids ()).bind (Lr.k (fun r => some r) (fun l => some true))) fun b => b = true → RP t (m + 1) x := fun h5 => by
     refine Tot.bind (Tot.forL (fun j _ => ∀ i y, i < j → x.Kids[i]? = some y → RP t m y) (fun i y hi => by omega) ?_ ?_)
     · rintro j y ⟨⟩ hy hI
       unfold ref08_Shape.b0
       refine Tot.to (rshape_tot m k y (w64 (d + 1)) (by rw [w64_id (by omega)]; omega) (by omega) (by omega)) fun b hb => Tot.not (fun _ => Tot.ret no) (fun hbt => Tot.ret fun i z hi hz => ?_)
       rcases Nat.lt_succ_iff_lt_or_eq.1 hi with hi | rfl
       · exact hI i z hi hz
       · rw [hy] at hz; cases hz; exact hb hbt
     · intro _ hI
       refine Tot.ret fun _ => ⟨fun y hy => ?_, h5, hkids⟩
       obtain ⟨i, hi⟩ := List.mem_iff_getElem?.1 hy
       exact hI i y (List.getElem?_eq_some_iff.1 hi).1 hi
    refine Tot.bind (Tot.dec (fun h5 => Tot.dec (fun _ => Tot.ret no) (fun hc => Tot.ndec (fun _ => Tot.ret (Tot.cond (fun _ => no) (fun _ => fin fun _ => hc))) (fun _ => Tot.ret (fin fun _ => hc)))) (fun h5 => Tot.ret (fin fun h => absurd h h5)))
theorem may_tot (a : Int) : Tot (ref08_may k a) fun _ => True := by
 unfold ref08_may
 exact Tot.any (Tot.dec (fun _ => Tot.ret trivial) fun _ => Tot.ret trivial) fun _ => Tot.ret trivial
theorem both_tot (a b : Int) : Tot (ref08_both k a b) fun _ => True := by
 unfold ref08_both
 refine Tot.any (Tot.dec (fun _ => Tot.ret trivial) fun _ => Tot.ret trivial) fun _ => Tot.cond (fun _ => Tot.ret trivial) fun _ => Tot.dec (fun _ => Tot.ret trivial) fun _ => ?_
 exact Tot.any (Tot.dec (fun _ => Tot.ret trivial) fun _ => Tot.ret trivial) fun _ => Tot.cond (fun _ => Tot.ret trivial) fun _ => Tot.ret trivial
theorem rtype_tot : ∀ (m k : Nat) (x : TExpr), m < k → RP t m x → Tot (ref08_Type k t x) fun _ => True
 | 0, _, _, _, h => h.elim
 | m + 1, 0, _, h, _ => by omega
 | m + 1, k + 1, x, hk, hp => by
  obtain ⟨h1, h2, h3⟩ := hp
  have hlen : x.Kids.length ≤ 3 := by omega
  show Tot (ref08_Type.F k (ref08_Type k) t x) _
  unfold ref08_Type.F
  refine Tot.bind (Tot.forL (fun j (c : List Int) => c.length = j) rfl ?_ ?_)
  · rintro j y c hy hc
    have hj := (List.getElem?_eq_some_iff.1 hy).1
    unfold ref08_Type.b0
    refine Tot.to (rtype_tot m k y (by omega) (h1 y (List.mem_of_getElem? hy))) fun b _ => Tot.dec (fun _ => Tot.ret (Tot.ret trivial)) (fun _ => Tot.bind (Tot.lim (by simp; omega) (Tot.ret (by simp [hc]))))
  · intro c hc
    have g : ∀ {i : Int} {β : Type} {f : Int → Option β} {Q : β → Prop}, 0 ≤ i → i < x.Kids.length → (∀ a, Tot (f a) Q) → Tot ((getO c i).bind f) Q := fun h0 h1 k => Tot.bind (Tot.getO h0 (by omega) fun a _ => k a)
    have a1 : ∀ b : Int, (Tot (bif decide (b = (-1 : Int)) then some (-1 : Int) else some (1 : Int)) fun _ => True) := fun b => Tot.dec (fun _ => Tot.ret trivial) fun _ => Tot.ret trivial
    have e0 : ∀ {p : Prop} [Decidable p], p → (decide p = false → ¬ (1 ≤ x.Kind ∧ x.Kind ≤ 4)) := fun hp h => by rw [decide_eq_true hp] at h; cases h
    refine Tot.to (P := fun e => e = false → ¬ (1 ≤ x.Kind ∧ x.Kind ≤ 4)) (Tot.dec (fun h => Tot.ret (e0 h)) fun n1 => Tot.dec (fun h => Tot.ret (e0 h)) fun n2 => Tot.dec (fun h => Tot.ret (e0 h)) fun n3 => Tot.ret fun h => by have := of_decide_eq_false h; omega) fun e he => ?_
    refine Tot.cond (fun _ => Tot.ret trivial) (fun hef => Tot.dec (fun h5 => ?_) (fun h5 => ?_))
    · rw [col_eq, Option.bind_some]
      have := colI_in (h2 h5)
      have := h2 h5
      exact Tot.bind (Tot.getO (by omega) (by omega) fun a _ => Tot.ret trivial)
    · refine Tot.dec (fun h8 => g (by decide) (by omega) fun a => Tot.to (may_tot k a) fun _ _ => Tot.not (fun _ => Tot.ret trivial) fun _ => Tot.ret trivial) (fun h8 => ?_)
      refine Tot.dec (fun h9 => Tot.ret trivial) (fun h9 => ?_)
      refine Tot.dec (fun h11 => g (by decide) (by omega) fun a => Tot.to (may_tot k a) fun _ _ => Tot.not (fun _ => Tot.ret trivial) fun _ => g (by decide) (by omega) fun b => g (by decide) (by omega) fun c => Tot.to (both_tot k b c) fun _ _ => Tot.ret trivial) (fun h11 => ?_)
      have hne := he hef
      · have hl : x.Kids.length = 2 := by omega
        refine Tot.any (Tot.dec (fun _ => Tot.ret trivial) fun _ => Tot.ret trivial) fun f => Tot.cond (fun _ => ?_) (fun _ => ?_)
        · refine Tot.any (g (by decide) (by omega) fun a => Tot.to (may_tot k a) fun _ _ => Tot.not (fun _ => Tot.ret trivial) fun _ => g (by decide) (by omega) fun b => Tot.to (may_tot k b) fun _ _ => Tot.ret trivial) fun h => Tot.cond (fun _ => Tot.ret trivial) fun _ => Tot.ret trivial
        · exact g (by decide) (by omega) fun a => g (by decide) (by omega) fun b => Tot.to (both_tot k a b) fun c _ => a1 c
end
section
variable {n : Nat} {rr : Nat → Nat → Prop} {R : Tref03_Lattice} {names : List ByteArray} (k : Nat)
theorem rlev (hd : Apart names) {c : Tref08_Catalog} (hc : c.L = some R) (hn : R.Names = names) (x : ByteArray) : ref08_Catalog_level k (some c) x = some (lvr names x) := by
 unfold ref08_Catalog_level
 simp only [optE, hc, hn]
 by_cases h : x ∈ names
 · obtain ⟨i, h1, h2⟩ := lv_at h
   rw [find_at k hd h2]
   have : lvr names x = lv names x := by
    unfold lvr lv at *
    cases hm : mget (atL 0 names) x with
    | none => exact absurd h ((at_none _ _ _).1 hm)
    | some v => rfl
   rw [this, h1]; rfl
 · rw [find_not k h]
   unfold lvr
   rw [(at_none _ _ _).2 h]; rfl
theorem rleq_any (hR : RLat n rr R) (a b : Int) : Tot (ref03_Lattice_Leq k (some R) a b) fun _ => True := by
 obtain ⟨v, hv⟩ := rleq_some k hR a b; exact ⟨v, hv, trivial⟩
theorem below_tot (t : TTable) (hd : Apart names) {c : Tref08_Catalog} (hc : c.L = some R) (hn : R.Names = names) (hR : RLat n rr R) (e : Int) : ∀ (m k : Nat) (x : TExpr), m < k → RP t m x → Tot (ref08_Catalog_Below k (some c) t x e) fun _ => True
 | 0, _, _, _, h => h.elim
 | m + 1, 0, _, h, _ => by omega
 | m + 1, k + 1, x, hk, hp => by
  obtain ⟨h1, h2, h3⟩ := hp
  show Tot (ref08_Catalog_Below.F k (ref08_Catalog_Below k) (some c) t x e) _
  unfold ref08_Catalog_Below.F
  refine Tot.any (Tot.dec (fun h5 => Tot.optE rfl ?_) (fun _ => Tot.ret trivial)) fun f => Tot.cond (fun _ => Tot.ret trivial) (fun _ => Tot.bind (Tot.forL (fun _ _ => True) trivial ?_ fun _ _ => Tot.ret trivial))
  · rw [col_eq, Option.bind_some]
    have := colI_in (h2 h5)
    have := h2 h5
    refine Tot.bind (Tot.getO (by omega) (by omega) fun a _ => ?_)
    rw [rlev k hd hc hn, Option.bind_some, hc]
    exact Tot.to (rleq_any k hR _ _) fun _ _ => Tot.ret trivial
  · rintro j y _ hy _
    unfold ref08_Catalog_Below.b0
    exact Tot.to (below_tot t hd hc hn hR e m k y (by omega) (h1 y (List.mem_of_getElem? hy))) fun b _ => Tot.not (fun _ => Tot.ret (Tot.ret trivial)) fun _ => Tot.ret trivial
theorem rfind_tot (l : List ByteArray) (x : ByteArray) : Tot (ref03_Find k l x) fun _ => True := by
 obtain ⟨v, hv, _⟩ := find_neg k l x; exact ⟨v, hv, trivial⟩
theorem rtab_tot (c : Tref08_Catalog) (x : ByteArray) : Tot (ref08_Catalog_Table k (some c) x) fun _ => True := by
 unfold ref08_Catalog_Table
 refine Tot.optE rfl (Tot.bind (Tot.forL (fun _ _ => True) trivial (fun j y s _ _ => ?_) fun _ _ => Tot.ret trivial))
 unfold ref08_Catalog_Table.b0
 exact Tot.dec (fun _ => Tot.ret (Tot.ret trivial)) fun _ => Tot.ret trivial
theorem rtable_tot (hk : 1000 ≤ k) (hd : Apart names) {c : Tref08_Catalog} (hc : c.L = some R) (hn : R.Names = names) (hR : RLat n rr R) (t : TTable) (ht : t.Key.length ≤ 1000) :
  Tot (ref08_Catalog_table k c t) fun r => r.2.2 = c ∧ (r.2.1 = 0 → r.1 = tabOf names t ∧ okT names t) := by
 unfold ref08_Catalog_table
 have no : ∀ (x : TRelation) (e : Int), e ≠ 0 → Tot (some (x, e, c)) fun r => r.2.2 = c ∧ (r.2.1 = 0 → r.1 = tabOf names t ∧ okT names t) := fun x e he => Tot.ret ⟨rfl, fun h => absurd h he⟩
 have nor : ∀ (x : TRelation) (e : Int), e ≠ 0 → Tot (some (x, e, c)) fun r => r.2.2 = c ∧ (r.2.1 = 0 → r.1 = tabOf names t ∧ okT names t) := no
 refine Tot.bind (Tot.dec (fun _ => Tot.ret (no _ _ (by decide))) (fun h0 => Tot.ret (Tot.dec (fun _ => no _ _ (by decide)) (fun h40 => ?_))))
 refine Tot.any (Tot.dec (fun _ => Tot.ret trivial) (fun _ => Tot.to (rtab_tot k c _) fun _ _ => Tot.ret trivial)) fun o => Tot.cond (fun _ => no _ _ (by decide)) (fun _ => ?_)
 refine Tot.bind (Tot.forL (fun _ _ => True) trivial ?_ ?_)
 · rintro j x _ hx _
   unfold ref08_Catalog_table.b4
   rw [col_eq]
   exact Tot.any (Tot.dec (fun _ => Tot.ret trivial) (fun _ => Tot.ret trivial)) fun d => Tot.cond (fun _ => Tot.ret (no _ _ (by decide))) fun _ => Tot.ret trivial
 intro _ _
 refine Tot.bind (Tot.forL (fun _ _ => True) trivial ?_ ?_)
 · rintro j x _ hx _
   unfold ref08_Catalog_table.b3
   exact Tot.any (Tot.dec (fun _ => Tot.ret trivial) (fun _ => Tot.ret trivial)) fun d => Tot.cond (fun _ => Tot.ret (no _ _ (by decide))) fun _ => Tot.ret trivial
 intro _ _
 rw [rlev k hd hc hn, Option.bind_some]
 refine Tot.bind (Tot.forL (fun j (s : List TField × Bool) => s.1 = (t.Cols.take j).map (fun x => (⟨x.Name, x.Type_, x.Null, lvr names x.Level⟩ : TField)) ∧ (s.2 = false → ¬ lvr names t.Rows < 0 ∧ ∀ x, x ∈ t.Cols.take j → ¬ lvr names x.Level < 0)) ⟨rfl, fun h => ⟨of_decide_eq_false h, by simp⟩⟩ ?_ ?_)
 · rintro j x ⟨f, b⟩ hx ⟨g1, g2⟩
   dsimp only at g1 g2
   have hj := (List.getElem?_eq_some_iff.1 hx).1
   have htk : t.Cols.take (j + 1) = t.Cols.take j ++ [x] := by rw [List.take_add_one, hx]; rfl
   unfold ref08_Catalog_table.b2
   rw [rlev k hd hc hn, Option.bind_some]
   have e : Tot (bif b then some true else some (decide (lvr names x.Level < (0 : Int)))) fun v => v = false → b = false ∧ ¬ lvr names x.Level < 0 := Tot.cond (fun _ => Tot.ret fun h => by cases h) (fun hb => Tot.ret fun h => ⟨hb, of_decide_eq_false h⟩)
   refine Tot.to e fun v hv => Tot.bind (Tot.lim (by rw [g1]; simp; omega) (Tot.ret ⟨by show f ++ _ = _; rw [g1, htk, List.map_append]; rfl, fun h => ?_⟩))
   obtain ⟨h1, h2⟩ := hv h
   obtain ⟨h3, h4⟩ := g2 h1
   refine ⟨h3, fun y hy => ?_⟩
   rw [htk] at hy
   rcases List.mem_append.1 hy with hy | hy
   · exact h4 y hy
   · rw [List.mem_singleton.1 hy]; exact h2
 rintro ⟨f, b⟩ ⟨g1, g2⟩
 dsimp only at g1 g2
 rw [List.take_length] at g1 g2
 rw [Lr.k]
 refine Tot.cond (fun _ => no _ _ (by decide)) (fun hb => ?_)
 obtain ⟨hr, hcs⟩ := g2 hb
 obtain ⟨hrm, hre⟩ := lvr_in hr
 have hf : f = t.Cols.map (fld names) := by
  rw [g1]
  refine List.map_congr_left fun x hx => ?_
  rw [(lvr_in (hcs x hx)).2]; rfl
 refine Tot.bind (Tot.forL (fun j (s : List Int) => s = (t.Key.take j).map (cixI t.Cols) ∧ ∀ v, v ∈ s → 0 ≤ v ∧ v < t.Cols.length) ⟨rfl, by simp⟩ ?_ ?_)
 · rintro j x s hx ⟨q1, q2⟩
   have hj := (List.getElem?_eq_some_iff.1 hx).1
   have htk : t.Key.take (j + 1) = t.Key.take j ++ [x] := by rw [List.take_add_one, hx]; rfl
   unfold ref08_Catalog_table.b1
   simp only [col_eq, Option.bind_some]
   have hcut : cutO t.Key (0 : Int) ((0 + j : Nat) : Int) = some (t.Key.take j) := by
    unfold cutO; rw [if_pos (by omega)]; simp
   refine Tot.to (P := fun v => v = false → ¬ colI t.Cols x < 0) (Tot.dec (fun _ => Tot.ret fun h => by cases h) (fun hc0 => ?_)) fun v hv => Tot.cond (fun _ => Tot.ret (no _ _ (by decide))) (fun hvf => ?_)
   · rw [hcut, Option.bind_some]
     exact Tot.to (rfind_tot k _ _) fun _ _ => Tot.ret fun _ => hc0
   · have h1 := hv hvf
     obtain ⟨h2, h3⟩ := colI_in h1
     refine Tot.bind (Tot.lim (by rw [q1]; simp; omega) (Tot.ret ⟨?_, fun w hw => ?_⟩))
     · rw [q1, htk, List.map_append, h3]; rfl
     · rcases List.mem_append.1 hw with hw | hw
       · exact q2 w hw
       · rw [List.mem_singleton.1 hw]; omega
 rintro s ⟨q1, q2⟩
 rw [List.take_length] at q1
 rw [Lr.k]
 refine Tot.bind (Tot.forL (fun _ (_ : Unit) => True) trivial ?_ ?_)
 · rintro j x _ hx _
   unfold ref08_Catalog_table.b0
   refine Tot.bind (Tot.getO (by omega) (by have := (List.getElem?_eq_some_iff.1 hx).1; show ((0 + j : Nat) : Int) < (s.length : Int); omega) fun v hv => ?_)
   obtain ⟨v1, v2⟩ := q2 v (List.mem_of_getElem? hv)
   refine Tot.bind (Tot.getO v1 (by show v < (f.length : Int); rw [hf]; simpa using v2) fun w _ => ?_)
   rw [hc]
   exact Tot.to (rleq_any k hR _ _) fun _ _ => Tot.not (fun _ => Tot.ret (no _ _ (by decide))) fun _ => Tot.ret trivial
 rintro _ _
 rw [Lr.k]
 have hm : (bif decide (t.Hide = (⟨#[]⟩ : ByteArray)) then some (decide ((t.When.length : Int) = (0 : Int))) else some false) = some (decide (bare t)) := by
  unfold bare
  by_cases h : t.Hide = (⟨#[]⟩ : ByteArray)
  · simp [h]
  · simp [h]
 rw [hm, Option.bind_some]
 refine Tot.dec (fun hb => Tot.ret ⟨rfl, fun _ => ⟨?_, hrm, fun x hx => (lvr_in (hcs x hx)).1, .inl hb⟩⟩) (fun hb => ?_)
 · unfold tabOf
   rw [if_pos hb, if_pos hb, ← hf, ← q1, ← hre]
 rw [rlev k hd hc hn, Option.bind_some]
 refine Tot.dec (fun _ => no _ _ (by decide)) (fun hh => ?_)
 obtain ⟨hhm, hhe⟩ := lvr_in hh
 rw [hc]
 refine Tot.to (rleq_any k hR _ _) fun p _ => Tot.not (fun _ => no _ _ (by decide)) (fun _ => ?_)
 refine Tot.to (P := fun v => v = false → ∃ x, t.When = [x] ∧ RP t 40 x) (Tot.ndec (fun _ => Tot.ret fun h => by cases h) (fun hl => ?_)) fun v hv => Tot.cond (fun _ => no _ _ (by decide)) (fun hvf => ?_)
 · refine Tot.bind (Tot.getO (by omega) (by omega) fun x hx => ?_)
   obtain ⟨x', hx'⟩ : ∃ x', t.When = [x'] := by
    match t.When, hl with
    | [x'], _ => exact ⟨x', rfl⟩
   refine Tot.to (rshape_tot t 40 k x 1 (by omega) (by omega) (by omega)) fun b hb2 => Tot.ret fun h => ⟨x', hx', ?_⟩
   have hxe : x' = x := by rw [hx'] at hx; simpa using hx
   rw [hxe]; exact hb2 (by simpa using h)
 obtain ⟨x, hx, hp⟩ := hv hvf
 rw [hx]
 rw [show getO [x] (0 : Int) = some x from rfl, Option.bind_some]
 refine Tot.to (rtype_tot t 40 k x (by omega) hp) fun a _ => Tot.to (may_tot k a) fun _ _ => Tot.not (fun _ => no _ _ (by decide)) (fun _ => ?_)
 refine Tot.to (below_tot t hd hc hn hR _ 40 k x (by omega) hp) fun _ _ => Tot.not (fun _ => no _ _ (by decide)) (fun _ => Tot.ret ⟨rfl, fun _ => ⟨?_, hrm, fun y hy => (lvr_in (hcs y hy)).1, .inr hhm⟩⟩)
 unfold tabOf
 rw [if_neg hb, if_neg hb, ← hf, ← q1, ← hre, ← hhe, hx]
end
end Go.Proofs.YtknhbphhdfknaaaGreatDoor
set_option linter.unusedVariables false
set_option linter.unusedSimpArgs false
set_option maxRecDepth 100000
namespace Go.Proofs.YtknhbphhdfknaaaGreatDoor
section
variable {L : Tlattice_Lattice} {names : List ByteArray} (k : Nat)
theorem named_par {c : Tschema_Catalog} (hc : c.lattice_ = some L) (ha : L.at_ = atL 0 names) (l : List TPair) :
  Par (schema_Catalog_named k c l) fun r => r.2.2.1 = 0 → r.1 = l.map (nmd names) ∧ ∀ p, p ∈ l → p.High ∈ names := by
 unfold schema_Catalog_named
 refine Par.bind (Par.forL (fun j (s : List TNamed) => s = (l.take j).map (nmd names) ∧ ∀ p, p ∈ l.take j → p.High ∈ names) ⟨rfl, by simp⟩ ?_ ?_)
 · rintro j p s hp ⟨rfl, h2⟩
   have htk : l.take (j + 1) = l.take j ++ [p] := by rw [List.take_add_one, hp]; rfl
   unfold schema_Catalog_named.b0
   rw [hc, find_at0 k ha, Option.bind_some]
   refine Par.bind fun v hv => Par.cond (fun _ => Par.ret (Par.ret fun h => ne0 h)) (fun hvf => Par.any fun _ => Par.ret ?_)
   have hm : (mget (atL 0 names) p.High).isSome = true := by
    cases he : (mget (atL 0 names) p.High).isSome with
    | true => rfl
    | false =>
     rw [hvf] at hv
     simp only [he, Bool.not_false, cond_true] at hv
     cases hv
   refine ⟨by rw [htk, List.map_append]; rfl, fun q hq => ?_⟩
   rw [htk] at hq
   rcases List.mem_append.1 hq with hq | hq
   · exact h2 q hq
   · rw [List.mem_singleton.1 hq]; exact mem_of_isSome hm
 · rintro s ⟨rfl, h2⟩
   rw [List.take_length] at *
   exact Par.ret fun _ => ⟨rfl, h2⟩
structure Cat (names : List ByteArray) (s : TSchema) (ts : List TRelation) (ch pr : List TNamed) (lm : Int) : Prop where
 tabs : ts = s.Tables.map (tabOf names)
 ok : ∀ t, t ∈ s.Tables → okT names t
 chs : ch = s.Channels.map (nmd names)
 prs : pr = s.Principals.map (nmd names)
 okc : ∀ p, p ∈ s.Channels → p.High ∈ names
 okp : ∀ p, p ∈ s.Principals → p.High ∈ names
 lim : lm = if s.Limit = 0 then 100 else s.Limit
theorem lim_eq (a : Int) : (bif decide (a = (0 : Int)) then some ((100 : Int)) else some a) = some (if a = 0 then 100 else a) := by
 by_cases h : a = 0
 · rw [decide_eq_true h, if_pos h]; rfl
 · rw [decide_eq_false h, if_neg h]; rfl
theorem new_par (s : TSchema) (hl : lattice_New k s.Levels s.Edges = some (some L, 0)) (ha : L.at_ = atL 0 names) :
  Par (schema_New k s) fun r => r.2.2 = 0 → ∃ c, r.1 = some c ∧ c.lattice_ = some L ∧ Cat names s c.tables_ c.channels_ c.principals_ c.limit_ := by
 unfold schema_New
 rw [hl, Option.bind_some]
 refine Par.ndec (fun h => absurd rfl h) (fun _ => Par.any fun h => Par.cond (fun _ => Par.ret fun h => ne0 h) (fun _ => ?_))
 rw [lim_eq, Option.bind_some]
 refine Par.bind (Par.forL (fun j (st : List TRelation × Places) => st.1 = (s.Tables.take j).map (tabOf names) ∧ ∀ t, t ∈ s.Tables.take j → okT names t) ⟨rfl, by simp⟩ ?_ ?_)
 · rintro j t ⟨T, A⟩ ht ⟨g1, g2⟩
   dsimp only at g1 g2
   have htk : s.Tables.take (j + 1) = s.Tables.take j ++ [t] := by rw [List.take_add_one, ht]; rfl
   unfold schema_New.b0
   refine Par.to (table_par k (b := ⟨some L, T, A, [], [], _⟩) rfl ha t) fun b hb => Par.ndec (fun h => Par.ret (Par.ret fun h' => absurd h' h)) (fun h => Par.ret ?_)
   obtain ⟨b1, b2⟩ := hb h
   refine ⟨by show b.2.tables_ = _; rw [b1, g1, htk, List.map_append]; rfl, fun q hq => ?_⟩
   rw [htk] at hq
   rcases List.mem_append.1 hq with hq | hq
   · exact g2 q hq
   · rw [List.mem_singleton.1 hq]; exact b2
 rintro ⟨T, A⟩ ⟨g1, g2⟩
 dsimp only at g1 g2
 rw [List.take_length] at g1 g2
 rw [Lr.k]
 refine Par.to (named_par k (c := ⟨some L, T, A, [], [], _⟩) rfl ha s.Channels) fun e he => Par.ndec (fun h => Par.ret fun h' => absurd h' h) (fun h => ?_)
 obtain ⟨e1, e2⟩ := he h
 refine Par.to (named_par k (c := ⟨some L, T, A, e.1, [], _⟩) rfl ha s.Principals) fun g hg => Par.ndec (fun h => Par.ret fun h' => absurd h' h) (fun h => Par.ret fun _ => ?_)
 obtain ⟨q1, q2⟩ := hg h
 exact ⟨_, rfl, rfl, g1, g2, e1, q1, e2, q2, rfl⟩
end
section
variable {n : Nat} {rr : Nat → Nat → Prop} {R : Tref03_Lattice} {names : List ByteArray} (k : Nat)
theorem rfindn_tot (l : List TNamed) (x : ByteArray) : Tot (ref08_Find k l x) fun _ => True := by
 unfold ref08_Find
 refine Tot.bind (Tot.forL (fun _ _ => True) trivial (fun j y s _ _ => ?_) fun _ _ => Tot.ret trivial)
 unfold ref08_Find.b0
 exact Tot.dec (fun _ => Tot.ret (Tot.ret trivial)) fun _ => Tot.ret trivial
theorem rnamed_tot (hd : Apart names) {c : Tref08_Catalog} (hc : c.L = some R) (hn : R.Names = names) (l : List TPair) (hl : l.length ≤ 1000) :
  Tot (ref08_Catalog_named k c l) fun r => r.2.2.2 = c ∧ (r.2.1 = 0 → r.1 = l.map (nmd names) ∧ ∀ p, p ∈ l → p.High ∈ names) := by
 unfold ref08_Catalog_named
 refine Tot.bind (Tot.forL (fun j (s : List TNamed) => s = (l.take j).map (nmd names) ∧ ∀ p, p ∈ l.take j → p.High ∈ names) ⟨rfl, by simp⟩ ?_ ?_)
 · rintro j p s hp ⟨rfl, h2⟩
   have hj := (List.getElem?_eq_some_iff.1 hp).1
   have htk : l.take (j + 1) = l.take j ++ [p] := by rw [List.take_add_one, hp]; rfl
   unfold ref08_Catalog_named.b0
   rw [rlev k hd hc hn]
   refine Tot.to (rfindn_tot k _ _) fun g _ => Tot.to (P := fun v => v = false → ¬ lvr names p.High < 0) (Tot.dec (fun _ => Tot.ret fun h => by cases h) (fun _ => Tot.cond (fun _ => Tot.ret fun h => by cases h) (fun _ => Tot.ret fun h => of_decide_eq_false h))) fun v hv => ?_
   refine Tot.cond (fun _ => Tot.ret (Tot.ret ⟨rfl, fun h => ne0 h⟩)) (fun hvf => ?_)
   obtain ⟨h3, h4⟩ := lvr_in (hv hvf)
   rw [Option.bind_some, h4]
   refine Tot.bind (Tot.lim (by simp; omega) (Tot.ret ⟨by rw [htk, List.map_append]; rfl, fun q hq => ?_⟩))
   rw [htk] at hq
   rcases List.mem_append.1 hq with hq | hq
   · exact h2 q hq
   · rw [List.mem_singleton.1 hq]; exact h3
 · rintro s ⟨rfl, h2⟩
   rw [List.take_length] at *
   exact Tot.ret ⟨rfl, fun _ => ⟨rfl, h2⟩⟩
theorem rnew_tot (hk : 1000 ≤ k) (s : TSchema) (hl : ref03_New k s.Levels s.Edges = some (some R, 0)) (hd : Apart names) (hn : R.Names = names) (hR : RLat n rr R) (hs : ∀ t, t ∈ s.Tables → lightT t) :
  Tot (ref08_New k s) fun r => r.2.1 = 0 → ∃ c, r.1 = some c ∧ c.L = some R ∧ Cat names s c.Tables c.Channels c.Principals c.Limit := by
 unfold ref08_New
 rw [hl, Option.bind_some]
 refine Tot.ndec (fun h => absurd rfl h) (fun _ => ?_)
 refine Tot.to (P := fun v => v = false → s.Tables.length ≤ 20 ∧ s.Channels.length ≤ 20 ∧ s.Principals.length ≤ 20) (Tot.dec (fun _ => Tot.ret fun h => by cases h) (fun h1 => Tot.dec (fun _ => Tot.ret fun h => by cases h) (fun h2 => Tot.dec (fun _ => Tot.ret fun h => by cases h) (fun h3 => Tot.dec (fun _ => Tot.ret fun h => by cases h) (fun _ => Tot.ret fun _ => by omega))))) fun v hv => ?_
 refine Tot.cond (fun _ => Tot.ret fun h => ne0 h) (fun hvf => ?_)
 obtain ⟨l1, l2, l3⟩ := hv hvf
 rw [lim_eq, Option.bind_some]
 refine Tot.bind (Tot.forL (fun j (T : List TRelation) => T = (s.Tables.take j).map (tabOf names) ∧ ∀ t, t ∈ s.Tables.take j → okT names t) ⟨rfl, by simp⟩ ?_ ?_)
 · rintro j t T ht ⟨rfl, g2⟩
   have hj := (List.getElem?_eq_some_iff.1 ht).1
   have htk : s.Tables.take (j + 1) = s.Tables.take j ++ [t] := by rw [List.take_add_one, ht]; rfl
   unfold ref08_New.b0
   refine Tot.to (rtable_tot k hk hd (c := ⟨some R, _, [], [], _⟩) rfl hn hR t (hs t (List.mem_of_getElem? ht)).1) fun b hb => ?_
   obtain ⟨b0, hb⟩ := hb
   refine Tot.ndec (fun h => Tot.ret (Tot.ret fun h' => absurd h' h)) (fun h => ?_)
   obtain ⟨b1, b2⟩ := hb h
   rw [b0]
   refine Tot.bind (Tot.lim (by simp; omega) (Tot.ret ⟨by rw [b1, htk, List.map_append]; rfl, fun q hq => ?_⟩))
   rw [htk] at hq
   rcases List.mem_append.1 hq with hq | hq
   · exact g2 q hq
   · rw [List.mem_singleton.1 hq]; exact b2
 rintro T ⟨rfl, g2⟩
 rw [List.take_length] at *
 rw [Lr.k]
 refine Tot.to (rnamed_tot k hd (c := ⟨some R, _, [], [], _⟩) rfl hn s.Channels (by omega)) fun e he => ?_
 refine Tot.ndec (fun h => Tot.ret fun h' => absurd h' h) (fun h => ?_)
 obtain ⟨e1, e2⟩ := he.2 h
 refine Tot.to (rnamed_tot k hd (c := ⟨some R, _, [], [], _⟩) rfl hn s.Principals (by omega)) fun g hg => ?_
 refine Tot.ndec (fun h => Tot.ret fun h' => absurd h' h) (fun h => Tot.ret fun _ => ?_)
 obtain ⟨q1, q2⟩ := hg.2 h
 exact ⟨_, rfl, rfl, rfl, g2, e1, q1, e2, q2, rfl⟩
end
structure Two (s : TSchema) (c : Tschema_Catalog) (C : Tref08_Catalog) : Prop where
 lat : ∃ L R, c.lattice_ = some L ∧ C.L = some R ∧ Lat s.Levels.length (Way s.Levels s.Edges) L ∧ RLat s.Levels.length (Way s.Levels s.Edges) R
 pcat : Cat s.Levels s c.tables_ c.channels_ c.principals_ c.limit_
 rcat : Cat s.Levels s C.Tables C.Channels C.Principals C.Limit
 good : ∀ t, t ∈ c.tables_ → GoodT t
 few : c.tables_.length ≤ 20
 fewc : s.Channels.length ≤ 20
 fewp : s.Principals.length ≤ 20
theorem both_tot2 (k : Nat) (hk : 1048577 ≤ k) (s : TSchema) : Tot (law09_Both k s) fun r => r = (none, none) ∨ ∃ c C, r = (some c, some C) ∧ Two s c C := by
 unfold law09_Both
 refine Tot.to (few08_tot k (by omega) s) fun b hb => Tot.not (fun _ => Tot.ret (.inl rfl)) (fun hbt => ?_)
 have hs := hb hbt
 obtain ⟨r1, h1, h2⟩ := new08 k hk s hs
 rcases news k hk s.Levels s.Edges with ⟨L, R, g1, g2, g3, g4, g5, g6, g7, g8⟩ | ⟨e, he, g1, g2⟩
 · have hp := new_par k s g1 g6 r1 h1
   rw [h1, Option.bind_some]
   refine Tot.to (rnew_tot k (by omega) s g2 (apart_of g7.1) g8 g4 hs) fun r2 hr2 => ?_
   refine Tot.to (P := fun v => v = false → r1.2.2 = 0 ∧ r2.2.1 = 0) (Tot.ndec (fun _ => Tot.ret fun h => by cases h) (fun h0 => Tot.ret fun h => ⟨h0, by simpa using h⟩)) fun v hv => Tot.cond (fun _ => Tot.ret (.inl rfl)) (fun hvf => Tot.ret (.inr ?_))
   obtain ⟨v1, v2⟩ := hv hvf
   obtain ⟨c, c1, c2, c3⟩ := hp v1
   obtain ⟨C, C1, C2, C3⟩ := hr2 v2
   rcases h2 with ⟨_, h2⟩ | ⟨_, c', h3, h4⟩
   · exact absurd v1 h2
   · rw [c1] at h3; cases h3
     obtain ⟨L', _, _, _, _, f1, f2, _⟩ := h4.all
     exact ⟨c, C, by rw [c1, C1], ⟨L, R, c2, C2, g3, g4⟩, c3, C3, h4.tabs, h4.few, f1, f2⟩
 · have e1 : r1.2.2 = e := by
    have h := h1
    unfold schema_New at h
    rw [g1, Option.bind_some] at h
    simp only [decide_eq_false he, Bool.not_false, cond_true, Option.some.injEq] at h
    rw [← h]
   rw [h1, Option.bind_some]
   have e2 : ref08_New k s = some (none, e, 0) := by
    unfold ref08_New
    rw [g2, Option.bind_some]
    simp only [decide_eq_false he, Bool.not_false, cond_true]
   rw [e2, Option.bind_some, e1, decide_eq_false he]
   exact Tot.ret (.inl rfl)
end Go.Proofs.YtknhbphhdfknaaaGreatDoor
set_option linter.unusedVariables false
set_option linter.unusedSimpArgs false
set_option maxRecDepth 100000
namespace Go.Proofs.YtknhbphhdfknaaaGreatDoor
section
variable {n : Nat} {r : Nat → Nat → Prop} {L : Tlattice_Lattice} {R : Tref03_Lattice} (k : Nat)
theorem together_eq (hL : Lat n r L) (hR : RLat n r R) (rf : ∀ a, a < n → r a a) (tr : ∀ a b c, r a b → r b c → r a c) (bd : ∀ a b, r a b → b < n)
  (T : List TRelation) (N : List TNamed) {a b : Int} (h0 : 0 ≤ a) (h1 : a < n) :
  ∃ v, labels_marker_together k (some ⟨some L, T, N⟩) [a, b] = some v ∧ ref03_Lattice_Join k (some R) a b = some v := by
 obtain ⟨z, hz, zn, zl⟩ := bottom_in k hL tr
 obtain ⟨i, rfl⟩ : ∃ i : Nat, a = (i : Int) := ⟨a.toNat, by omega⟩
 have hi : i < n := by omega
 obtain ⟨c, hc, hj⟩ := join_in k hL zn hi
 have e : c = i := hL.joinu hj ⟨hi, zl i hi, rf i hi, fun d _ h => h⟩
 rw [e] at hc
 obtain ⟨v, v1, v2⟩ := join_any k hL hR bd (i : Int) b
 refine ⟨v, ?_, v2⟩
 unfold labels_marker_together
 simp only [optE, hz, Option.bind_some, forL, labels_marker_together.b0, hc, v1, Lr.k]
end
section
variable {s : TSchema} {c : Tschema_Catalog} {C : Tref08_Catalog} (k : Nat)
theorem Two.tab (h : Two s c C) : C.Tables = c.tables_ := h.rcat.tabs.trans h.pcat.tabs.symm
theorem Two.tables (h : Two s c C) : schema_Catalog_Tables k (some c) = some c.tables_ := tables_eq k c h.good (by have := h.few; omega)
theorem Two.of (h : Two s c C) (l : List TNamed) : labels_of k (some c) l = some (some ⟨c.lattice_, c.tables_, l⟩) := by
 unfold labels_of
 rw [h.tables k]; rfl
theorem Two.rows (h : Two s c C) {i : Nat} {t : TRelation} (ht : c.tables_[i]? = some t) : 0 ≤ t.Rows ∧ t.Rows < s.Levels.length := by
 rw [h.pcat.tabs, List.getElem?_map] at ht
 obtain ⟨t0, h0, rfl⟩ := Option.map_eq_some_iff.1 ht
 have h1 := lv_in (h.pcat.ok t0 (List.mem_of_getElem? h0)).1
 have h2 : (tabOf s.Levels t0).Rows = lv s.Levels t0.Rows := by unfold tabOf; rfl
 rw [h2]; exact h1
theorem Two.column (h : Two s c C) {i j : Nat} {t : TRelation} {f : TField} (ht : c.tables_[i]? = some t) (hf : t.Cols[j]? = some f) : ∃ v, labels_Column k (some c) (i : Int) (j : Int) = some v ∧ ref17_Column k (some C) (i : Int) (j : Int) = some v := by
 obtain ⟨L, R, hc, hC, hL, hR⟩ := h.lat
 obtain ⟨q1, q2⟩ := h.rows ht
 have hi := (List.getElem?_eq_some_iff.1 ht).1
 have hj := (List.getElem?_eq_some_iff.1 hf).1
 have hi1 : decide ((i : Int) < 0) = false := decide_eq_false (by omega)
 have hj1 : decide ((j : Int) < 0) = false := decide_eq_false (by omega)
 have hi2 : decide ((c.tables_.length : Int) ≤ (i : Int)) = false := decide_eq_false (by omega)
 have hj2 : decide ((t.Cols.length : Int) ≤ (j : Int)) = false := decide_eq_false (by omega)
 obtain ⟨v, v1, v2⟩ := together_eq k hL hR (fun a => Way.refl a) (fun _ _ _ => Way.trans) (fun a b w => (way_lt w).2) c.tables_ [] (b := f.Level) q1 q2
 refine ⟨v, ?_, ?_⟩
 · unfold labels_Column labels_marker_column
   simp only [optE, h.tables k, h.of k, getO_at ht, getO_at hf, Option.bind_some, hi1, hi2, hj1, hj2, cond_false, hc, v1]
 · unfold ref17_Column
   simp only [optE, h.tab, getO_at ht, getO_at hf, Option.bind_some, hC, v2]
end
end Go.Proofs.YtknhbphhdfknaaaGreatDoor
set_option linter.unusedVariables false
set_option linter.unusedSimpArgs false
set_option maxRecDepth 100000
namespace Go.Proofs.YtknhbphhdfknaaaGreatDoor
section
variable {α S A B : Type}
theorem forL_two {f : Nat → α → S → Option (Step A S)} {g : Nat → α → S → Option (Step B S)} (I : Nat → S → Prop) {xs : List α} {i : Nat} {s : S} (h0 : I 0 s)
  (step : ∀ j c s, xs[j]? = some c → I j s → ∃ s', f (i + j) c s = some (.next s') ∧ g (i + j) c s = some (.next s') ∧ I (j + 1) s') :
  ∃ s', forL f i xs s = some (.go s') ∧ forL g i xs s = some (.go s') ∧ I xs.length s' := by
 induction xs generalizing i s I with
 | nil => exact ⟨_, rfl, rfl, h0⟩
 | cons c xs ih =>
  obtain ⟨s', h1, h2, h3⟩ := step 0 c s (by simp) h0
  rw [Nat.add_zero] at h1 h2
  obtain ⟨t, k1, k2, k3⟩ := ih (fun j => I (j + 1)) (i := i + 1) h3 (fun j c s hc hi => by
   have := step (j + 1) c s (by simpa using hc) hi
   rwa [show i + 1 + j = i + (j + 1) by omega])
  exact ⟨t, by unfold Go.Proofs.YtknhbphhdfknaaaGreatDoor.forL; rw [h1]; exact k1, by unfold Go.Proofs.YtknhbphhdfknaaaGreatDoor.forL; rw [h2]; exact k2, by simpa using k3⟩
end
theorem lim_some {n : Nat} (h : n ≤ 4294967296) : lim n = some () := by unfold lim; rw [if_pos h]
section
variable {n : Nat} {r : Nat → Nat → Prop} {L : Tlattice_Lattice} {R : Tref03_Lattice} (k : Nat)
theorem sight_eq {a b : Int} {v : Bool} (h : lattice_Lattice_Leq k (some L) a b = some v) : slices_ContainsFunc_int_int_audit_sight_1_1 k [a] (some L) b = some (!v, some L, b) := by
 unfold slices_ContainsFunc_int_int_audit_sight_1_1 slices_IndexFunc_int_int_audit_sight_1_1
 simp only [forL, slices_IndexFunc_int_int_audit_sight_1_1.b0, audit_sight_1_1, h, Option.bind_some]
 cases v <;> rfl
theorem clone_nmd (l : List TNamed) (h : l.length ≤ 1000) : slices_Clone_api_Named_api_Named k l = some l := by
 unfold slices_Clone_api_Named_api_Named
 rw [lim_some (by simp only [List.length_nil]; omega)]; rfl
theorem texts_self (l : List ByteArray) : ref03_Texts k l l = some true := by
 unfold ref03_Texts
 rw [decide_eq_true rfl]
 obtain ⟨s, h1, _⟩ := forL_end (body := ref03_Texts.b0 k l) (xs := l) (s := ()) (fun _ _ => True) trivial (fun j x s hx _ => ⟨(), by
  unfold ref03_Texts.b0
  rw [getO_at hx, Option.bind_some, decide_eq_true rfl]; rfl, trivial⟩)
 rw [h1]; rfl
theorem find_same (l : List TNamed) (x : ByteArray) : schema_find k l x = ref08_Find k l x := rfl
end
section
variable {s : TSchema} {c : Tschema_Catalog} {C : Tref08_Catalog} (k : Nat)
theorem Two.chs (h : Two s c C) : C.Channels = c.channels_ := h.rcat.chs.trans h.pcat.chs.symm
theorem Two.prs (h : Two s c C) : C.Principals = c.principals_ := h.rcat.prs.trans h.pcat.prs.symm
theorem Two.fewch (h : Two s c C) : c.channels_.length ≤ 20 := by rw [h.pcat.chs, List.length_map]; exact h.fewc
theorem Two.fewpr (h : Two s c C) : c.principals_.length ≤ 20 := by rw [h.pcat.prs, List.length_map]; exact h.fewp
theorem Two.principals (h : Two s c C) : schema_Catalog_Principals k (some c) = some c.principals_ := by
 unfold schema_Catalog_Principals
 simp only [optE, clone_nmd k _ (show c.principals_.length ≤ 1000 by have := h.fewpr; omega), Option.bind_some]; rfl
theorem Two.channels (h : Two s c C) : schema_Catalog_Channels k (some c) = some c.channels_ := by
 unfold schema_Catalog_Channels
 simp only [optE, clone_nmd k _ (show c.channels_.length ≤ 1000 by have := h.fewch; omega), Option.bind_some]; rfl
theorem Two.leq (h : Two s c C) (a b : Int) : ∃ v, lattice_Lattice_Leq k c.lattice_ a b = some v ∧ ref03_Lattice_Leq k C.L a b = some v := by
 obtain ⟨L, R, hc, hC, hL, hR⟩ := h.lat
 rw [hc, hC]; exact leq_any k hL hR a b
theorem Two.sight (h : Two s c C) {a b : Int} {v : Bool} (hv : lattice_Lattice_Leq k c.lattice_ a b = some v) : slices_ContainsFunc_int_int_audit_sight_1_1 k [a] c.lattice_ b = some (!v, c.lattice_, b) := by
 obtain ⟨L, R, hc, hC, hL, hR⟩ := h.lat
 rw [hc] at hv ⊢; exact sight_eq k hv
theorem Two.principal (h : Two s c C) (x : ByteArray) : schema_Catalog_Principal k (some c) x = ref08_Find k c.principals_ x := by
 unfold schema_Catalog_Principal
 rw [h.principals k, Option.bind_some, find_same]
 cases ref08_Find k c.principals_ x <;> rfl
theorem Two.reads (h : Two s c C) (x : ByteArray) {g : Int × Bool} (hg : ref08_Find k c.principals_ x = some g) :
  ∃ l, forL (law22_AuditTells.b3 k g (some c, some C) C) 0 c.tables_ [] = some (.go l) ∧ audit_Reads k (some c) x = some l := by
 obtain ⟨l, h1, h2, _⟩ := forL_two (f := law22_AuditTells.b3 k g (some c, some C) C) (g := audit_Reads.b0 k g (some c) c.lattice_) (xs := c.tables_) (i := 0) (s := ([] : List TGrant)) (fun j l => l.length ≤ 100 * j) (Nat.le_refl _) (by
  intro j t l ht hl
  simp only [Nat.zero_add]
  have htc := (h.good t (List.mem_of_getElem? ht)).2.1
  have hjc := (List.getElem?_eq_some_iff.1 ht).1
  have hfew := h.few
  obtain ⟨l', h1, h2, h3⟩ := forL_two (f := law22_AuditTells.b4 k g (some c, some C) j C t) (g := audit_Reads.b1 k g (some c) j c.lattice_ t) (xs := t.Cols) (i := 0) (s := l) (fun q m => m.length ≤ l.length + q) (Nat.le_refl _) (by
   intro q f m hf hm
   simp only [Nat.zero_add]
   have hq := (List.getElem?_eq_some_iff.1 hf).1
   obtain ⟨v, v1, v2⟩ := h.column k ht hf
   obtain ⟨w, w1, w2⟩ := h.leq k v g.1
   have w3 := h.sight k w1
   have hlim : lim (m.length + [(⟨t.Name, f.Name⟩ : TGrant)].length) = some () := lim_some (by simp only [List.length_singleton]; omega)
   unfold law22_AuditTells.b4 audit_Reads.b1
   simp only [v1, v2, w2, w3, Option.bind_some, Bool.not_not, hlim]
   cases g.2 with
   | false => exact ⟨m, rfl, rfl, by omega⟩
   | true =>
    cases w with
    | false => exact ⟨m, rfl, rfl, by omega⟩
    | true => exact ⟨_, rfl, rfl, by simp only [List.length_append, List.length_singleton]; omega⟩)
  refine ⟨l', ?_, ?_, by omega⟩
  · unfold law22_AuditTells.b3; rw [h1]; rfl
  · unfold audit_Reads.b0; rw [h2]; rfl)
 refine ⟨l, h1, ?_⟩
 unfold audit_Reads
 rw [h.principal k, hg, Option.bind_some, show schema_Catalog_Lattice k (some c) = some c.lattice_ from rfl, Option.bind_some, h.tables k, Option.bind_some, h2]; rfl
theorem Two.hears (h : Two s c C) (x : ByteArray) {g : Int × Bool} (hg : ref08_Find k c.principals_ x = some g) :
  ∃ l, forL (law22_AuditTells.b2 k g C) 0 c.channels_ [] = some (.go l) ∧ audit_Hears k (some c) x = some l := by
 have hfew := h.fewch
 obtain ⟨l, h1, h2, _⟩ := forL_two (f := law22_AuditTells.b2 k g C) (g := audit_Hears.b0 k g c.lattice_) (xs := c.channels_) (i := 0) (s := ([] : List ByteArray)) (fun j l => l.length ≤ j) (Nat.le_refl _) (by
  intro j p m hp hm
  simp only [Nat.zero_add]
  have hq := (List.getElem?_eq_some_iff.1 hp).1
  obtain ⟨w, w1, w2⟩ := h.leq k p.Level g.1
  have w3 := h.sight k w1
  have hlim : lim (m.length + [p.Name].length) = some () := lim_some (by simp only [List.length_singleton]; omega)
  unfold law22_AuditTells.b2 audit_Hears.b0
  simp only [w2, w3, Option.bind_some, Bool.not_not, hlim]
  cases g.2 with
  | false => exact ⟨m, rfl, rfl, by omega⟩
  | true =>
   cases w with
   | false => exact ⟨m, rfl, rfl, by omega⟩
   | true => exact ⟨_, rfl, rfl, by simp only [List.length_append, List.length_singleton]; omega⟩)
 refine ⟨l, h1, ?_⟩
 unfold audit_Hears
 rw [h.principal k, hg, Option.bind_some, show schema_Catalog_Lattice k (some c) = some c.lattice_ from rfl, Option.bind_some, h.channels k, Option.bind_some, h2]; rfl
theorem Two.who (h : Two s c C) (e : Int) :
  ∃ l, forL (law22_AuditTells.b1 k C e) 0 c.principals_ [] = some (.go l) ∧ audit_Who k (some c) e = some l := by
 have hfew := h.fewpr
 obtain ⟨l, h1, h2, _⟩ := forL_two (f := law22_AuditTells.b1 k C e) (g := audit_Who.b0 k (some c) e) (xs := c.principals_) (i := 0) (s := ([] : List ByteArray)) (fun j l => l.length ≤ j) (Nat.le_refl _) (by
  intro j p m hp hm
  simp only [Nat.zero_add]
  have hq := (List.getElem?_eq_some_iff.1 hp).1
  obtain ⟨w, w1, w2⟩ := h.leq k e p.Level
  have hlim : lim (m.length + [p.Name].length) = some () := lim_some (by simp only [List.length_singleton]; omega)
  unfold law22_AuditTells.b1 audit_Who.b0
  simp only [w1, w2, Option.bind_some, hlim, show schema_Catalog_Lattice k (some c) = some c.lattice_ from rfl]
  cases w with
  | false => exact ⟨m, rfl, rfl, by omega⟩
  | true => exact ⟨_, rfl, rfl, by simp only [List.length_append, List.length_singleton]; omega⟩)
 refine ⟨l, h1, ?_⟩
 unfold audit_Who
 rw [h.principals k, Option.bind_some, h2]; rfl
end
theorem AuditTells_law (s : TSchema) (x : ByteArray) (a : Int) : ∃ k, law22_AuditTells k s x a = some true := by
 suffices hT : Tot (law22_AuditTells 1048577 s x a) fun v => v = true by
  obtain ⟨v, h, rfl⟩ := hT; exact ⟨_, h⟩
 have al : law22_alive kAlive = some true := rfl
 unfold law22_AuditTells
 refine Tot.to (both_tot2 1048577 (Nat.le_refl _) s) fun r hr => ?_
 rcases hr with rfl | ⟨c, C, rfl, h⟩
 · exact Tot.cond (fun _ => Tot.one al (Tot.ret rfl)) (fun h => by cases h)
 refine Tot.cond (fun h => by cases h) (fun _ => Tot.optE (c := C) rfl ?_)
 obtain ⟨g, hg, _⟩ := rfindn_tot 1048577 c.principals_ x
 obtain ⟨l1, a1, a2⟩ := h.reads 1048577 x hg
 obtain ⟨l2, b1, b2⟩ := h.hears 1048577 x hg
 obtain ⟨l3, c1, c2⟩ := h.who 1048577 a
 simp only [h.tab, h.chs, h.prs]
 refine Tot.one hg (Tot.one a1 ?_)
 rw [Lr.k]
 refine Tot.one b1 ?_
 rw [Lr.k]
 refine Tot.one c1 ?_
 rw [Lr.k]
 refine Tot.one a2 (Tot.ndec (fun hn => absurd rfl hn) fun _ => ?_)
 refine Tot.bind (Tot.forL (fun _ (q : List TGrant) => q = l1) rfl ?_ ?_)
 · rintro j t q ht rfl
   unfold law22_AuditTells.b0
   simp only [Nat.zero_add]
   refine Tot.one (getO_at ht) (Tot.not (fun hn => ?_) fun _ => Tot.ret rfl)
   rw [decide_eq_true rfl, decide_eq_true rfl] at hn
   cases hn
 rintro q rfl
 rw [Lr.k]
 refine Tot.to (P := fun v => v = true) (Tot.one b2 (Tot.one (texts_self _ _) (Tot.cond (fun _ => Tot.one c2 (Tot.one (texts_self _ _) (Tot.cond (fun _ => Tot.one al (Tot.ret rfl)) fun h => by cases h))) fun h => by cases h))) fun v hv => Tot.ret hv
end Go.Proofs.YtknhbphhdfknaaaGreatDoor
namespace Go.Proofs.YtknhbphhdfknaaaGreatDoor
open Go
theorem rowAuditTells : Rows.AuditTellsSaid := law22_AuditTells.row AuditTells_law
theorem looksAuditTells : false = Tryz.prog.looks [] := by kernel_rfl
theorem goesAuditTells : false = Rows.auditTellsRow.goesBy Tryz.prog := by kernel_rfl
theorem mainAuditTells : Tryz.prog.mainIs = some (((true, "bfa43eec5b1e5a29072b2e402fa04795eb0a133b84562386b9df2791c89923c6")).1, ((true, "bfa43eec5b1e5a29072b2e402fa04795eb0a133b84562386b9df2791c89923c6")).2.toList) := by kernel_rfl
theorem wantsAuditTells : ([26, 9, 3].all fun u => !Tryz.prog.wantsStandIn u) = true := by kernel_rfl
theorem namedAuditTells : Tryz.prog.funcNamed "cordon/cordonlaw22.AuditTells" = some 4 := by kernel_rfl
theorem wfAuditTells : Rows.auditTellsRow.wfByText (OpenSpec.ofChange Rows.auditTellsSpec) = true := by kernel_rfl
theorem provedAuditTells : Rows.AuditTellsCardSaid :=
  Claim7.holds_tied_plain_at .later [] [.data, .data, .data, .data, .pinned] true (true, "bfa43eec5b1e5a29072b2e402fa04795eb0a133b84562386b9df2791c89923c6") false
    rowAuditTells (fun _ h => by cases h) wfAuditTells (fun _ h => by cases h) auditTells_row_tie rfl ⟨rfl, rfl⟩ mainAuditTells rfl
    (fun f fn hf hfn => by
      obtain rfl : f = 4 := Option.some.inj (namedAuditTells.symm.trans hf) |>.symm
      obtain rfl : fn = Tryz.f4 := (Option.some.inj (Tryz.func4.symm.trans hfn)).symm
      exact ⟨looksAuditTells, fun j t ht => by
        rw [Tryz.params4] at ht
        have hm : t ∈ [26, 9, 3] := by simpa using Array.mem_of_getElem? ht
        exact (show Tryz.prog.wantsStandIn t = false by simpa using List.all_eq_true.1 wantsAuditTells t hm)⟩)
    goesAuditTells
end Go.Proofs.YtknhbphhdfknaaaGreatDoor
