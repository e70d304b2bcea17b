/- The program's cost and the reference's are the whole numbers' cost, for any plan that the guard lets in. No program in sight. -/
import Derived.Test.YtliaopbgkcdibaaWd
set_option linter.unusedVariables false
set_option linter.unusedSimpArgs false
namespace Go.Proofs.Ytliaopbgkcdibaa
def OkP (k : Nat) (sz : List Int) (p : TPlan) : Prop := weigh_Plan k sz p = some (cp (cost k sz p).1 (cost k sz p).2) ∧ ref21_Plan k sz p = some ⟨((cost k sz p).1 : Int), ((cost k sz p).2 : Int), false⟩
def OkN (k : Nat) (sz : List Int) (l : List TNode) : Prop := weigh_within k sz l = some (cp (cut (nsum k sz l)) 0) ∧ ref21_inside k sz l = some ((cut (nsum k sz l) : Nat) : Int)
section
variable {k : Nat} {sz : List Int}
/-- one node: its plans -/
theorem plans_weigh (l : List TPlan) (h : ∀ q, q ∈ l → OkP k sz q) : ∀ (i s r : Nat), s ≤ 1099511627776 → r ≤ 1099511627776 → ∃ r', r' ≤ 1099511627776 ∧ forL (weigh_within.b1 k (weigh_Plan k) (weigh_within k) sz) i l (cp s r) = some (.go (cp (cut (s + (l.map fun q => (cost k sz q).1).sum)) r')) := by
  induction l with
  | nil => exact fun i s r hs hr => ⟨r, hr, by simp [forL, cut_of hs]⟩
  | cons q l ih =>
    intro i s r hs hr
    have hq := h q List.mem_cons_self
    have hc := cost_le k sz q
    obtain ⟨r', hr', h1⟩ := ih (fun q hq => h q (List.mem_cons_of_mem _ hq)) (i + 1) (cut (s + (cost k sz q).1)) (cut (r + (cost k sz q).2)) (cut_le _) (cut_le _)
    refine ⟨r', hr', ?_⟩
    rw [forL]
    have hb : weigh_within.b1 k (weigh_Plan k) (weigh_within k) sz i q (cp s r) = some (.next (cp (cut (s + (cost k sz q).1)) (cut (r + (cost k sz q).2)))) := by
      unfold weigh_within.b1
      simp only [hq.1, Option.bind_some, beside_cp k hs hr hc.1 hc.2]
    rw [hb]
    simp only [Option.bind_some]
    rw [h1]
    simp only [cut_add, List.map_cons, List.sum_cons, Nat.add_assoc]
theorem plans_ref (x : TNode) (h : ∀ q, q ∈ x.Plans → OkP k sz q) (s : Nat) (hs : s ≤ 1099511627776) (hk : x.Plans.length < k) (hl : x.Plans.length ≤ 300) : ∃ t, whileL (ref21_inside.b1 k (ref21_Plan k) (ref21_inside k) x sz) k ((s : Int), (0 : Int)) = some (.go (((cut (s + (x.Plans.map fun q => (cost k sz q).1).sum) : Nat) : Int), t)) := by
  obtain ⟨o, h1, t, rfl⟩ := whileL_spec (body := ref21_inside.b1 k (ref21_Plan k) (ref21_inside k) x sz)
    (fun y => ∃ i : Nat, i ≤ x.Plans.length ∧ y = (((cut (s + ((x.Plans.take i).map fun q => (cost k sz q).1).sum) : Nat) : Int), (i : Int))) (fun y => ∃ t, y = .go (((cut (s + (x.Plans.map fun q => (cost k sz q).1).sum) : Nat) : Int), t)) (fun y => x.Plans.length - y.2.toNat) (by
      rintro y ⟨i, hi, rfl⟩
      unfold ref21_inside.b1
      by_cases hlt : i < x.Plans.length
      · obtain ⟨q, hq⟩ : ∃ q, x.Plans[i]? = some q := ⟨_, List.getElem?_eq_getElem hlt⟩
        have hok := h q (List.mem_of_getElem? hq)
        have hc := cost_le k sz q
        refine .inl ⟨_, ?_, ⟨i + 1, by omega, rfl⟩, ?_⟩
        · simp only [decide_eq_true (show (i : Int) < (x.Plans.length : Int) by omega), cond_true, getO_nat, hq, Option.bind_some, hok.2, add_cut k (cut_le _) hc.1, take_succ hq, List.map_append, List.map_cons, List.map_nil, List.sum_append, List.sum_cons, List.sum_nil, Nat.add_zero, cut_add, Nat.add_assoc]
          rw [w64_id (by omega)]; rfl
        · show x.Plans.length - ((i + 1 : Nat) : Int).toNat < x.Plans.length - ((i : Nat) : Int).toNat
          omega
      · have : i = x.Plans.length := by omega
        subst this
        refine .inr (.inl ⟨_, ?_, (x.Plans.length : Int), rfl⟩)
        simp only [decide_eq_false (show ¬ (x.Plans.length : Int) < (x.Plans.length : Int) by omega), cond_false, List.take_length]) k ((s : Int), (0 : Int)) ⟨0, by omega, by simp [cut_of hs]⟩ (by show x.Plans.length - (0 : Int).toNat < k; simp; omega)
  exact ⟨t, h1⟩
/-- what is asked of a node -/
structure NodeOk (k : Nat) (sz : List Int) (n : TNode) : Prop where
  kids : OkN k sz n.Kids
  few : n.Plans.length < k
  few2 : n.Plans.length ≤ 300
  plans : ∀ q, q ∈ n.Plans → OkP k sz q
theorem nodes_weigh (l : List TNode) (h : ∀ n, n ∈ l → NodeOk k sz n) : ∀ (i s r : Nat), s ≤ 1099511627776 → r ≤ 1099511627776 → ∃ r', r' ≤ 1099511627776 ∧ forL (weigh_within.b0 k (weigh_Plan k) (weigh_within k) sz) i l (cp s r) = some (.go (cp (cut (s + nsum (k + 1) sz l)) r')) := by
  induction l with
  | nil => exact fun i s r hs hr => ⟨r, hr, by simp [forL, nsum, cut_of hs]⟩
  | cons n l ih =>
    intro i s r hs hr
    have hn := h n List.mem_cons_self
    obtain ⟨r1, hr1, h1⟩ := plans_weigh n.Plans hn.plans 0 s r hs hr
    obtain ⟨r', hr', h2⟩ := ih (fun n hn => h n (List.mem_cons_of_mem _ hn)) (i + 1) (cut (cut (s + (n.Plans.map fun q => (cost k sz q).1).sum) + cut (nsum k sz n.Kids))) (cut (r1 + 0)) (cut_le _) (cut_le _)
    refine ⟨r', hr', ?_⟩
    rw [forL]
    have hb : weigh_within.b0 k (weigh_Plan k) (weigh_within k) sz i n (cp s r) = some (.next (cp (cut (cut (s + (n.Plans.map fun q => (cost k sz q).1).sum) + cut (nsum k sz n.Kids))) (cut (r1 + 0)))) := by
      unfold weigh_within.b0
      simp only [h1, Option.bind_some, Lr.k, hn.kids.1, beside_cp k (cut_le _) hr1 (cut_le _) (Nat.zero_le _)]
    rw [hb]
    simp only [Option.bind_some]
    rw [h2]
    simp only [cut_add, nsum, List.map_cons, List.sum_cons, Nat.add_assoc]
theorem nodes_ref (l : List TNode) (h : ∀ n, n ∈ l → NodeOk k sz n) : ∀ (i s : Nat), s ≤ 1099511627776 → forL (ref21_inside.b0 k (ref21_Plan k) (ref21_inside k) sz) i l (s : Int) = some (.go ((cut (s + nsum (k + 1) sz l) : Nat) : Int)) := by
  induction l with
  | nil => exact fun i s hs => by simp [forL, nsum, cut_of hs]
  | cons n l ih =>
    intro i s hs
    have hn := h n List.mem_cons_self
    obtain ⟨t, h1⟩ := plans_ref n hn.plans s hs hn.few hn.few2
    have h2 := ih (fun n hn => h n (List.mem_cons_of_mem _ hn)) (i + 1) (cut (cut (s + (n.Plans.map fun q => (cost k sz q).1).sum) + cut (nsum k sz n.Kids))) (cut_le _)
    rw [forL]
    have hb : ref21_inside.b0 k (ref21_Plan k) (ref21_inside k) sz i n (s : Int) = some (.next ((cut (cut (s + (n.Plans.map fun q => (cost k sz q).1).sum) + cut (nsum k sz n.Kids)) : Nat) : Int)) := by
      unfold ref21_inside.b0
      simp only [h1, Option.bind_some, Lr.k, hn.kids.2, add_cut k (cut_le _) (cut_le _)]
    rw [hb]
    simp only [Option.bind_some]
    rw [h2]
    simp only [cut_add, nsum, List.map_cons, List.sum_cons, Nat.add_assoc]
theorem nodes_ok (l : List TNode) (h : ∀ n, n ∈ l → NodeOk k sz n) : OkN (k + 1) sz l := by
  constructor
  · show weigh_within.F k (weigh_Plan k) (weigh_within k) sz l = _
    unfold weigh_within.F
    obtain ⟨r', hr', h1⟩ := nodes_weigh l h 0 0 0 (by omega) (by omega)
    have e : ((0 : Nat), (0 : Nat)) = cp 0 0 := by unfold cp; rw [F_zero]
    rw [e, h1]
    have hc := cost_nat k (cut_le (0 + nsum (k + 1) sz l)) (show 0 ≤ 1099511627776 by omega)
    simp only [Option.bind_some, Lr.k, steps_cp k (cut_le _) hr']
    rw [show (0 : Int) = ((0 : Nat) : Int) from rfl, hc, Nat.zero_add]; rfl
  · show ref21_inside.F k (ref21_Plan k) (ref21_inside k) sz l = _
    unfold ref21_inside.F
    have h1 := nodes_ref l h 0 0 (by omega)
    rw [show (0 : Int) = ((0 : Nat) : Int) from rfl, h1, Nat.zero_add]
    rfl
theorem nsum_append (k : Nat) (sz : List Int) (a b : List TNode) : nsum k sz (a ++ b) = nsum k sz a + nsum k sz b := by
  cases k with
  | zero => simp [nsum]
  | succ k => simp [nsum]
end
end Go.Proofs.Ytliaopbgkcdibaa
