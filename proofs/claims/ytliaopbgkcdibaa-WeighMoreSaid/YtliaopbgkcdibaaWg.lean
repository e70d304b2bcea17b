/- WeighPlans and WeighMore, the plain laws: what any plan costs is as the reference says; with more rows in tables nothing costs less. No program in sight. -/
import Derived.Test.YtliaopbgkcdibaaWf
set_option linter.unusedVariables false
set_option linter.unusedSimpArgs false
namespace Go.Proofs.Ytliaopbgkcdibaa
section
variable {k : Nat} {sz : List Int}
theorem one_of_list {α : Type} {l : List α} (h : l.length = 1) : ∃ a, l = [a] := by
  match l, h with
  | [a], _ => exact ⟨a, rfl⟩
theorem two_of_list {α : Type} {l : List α} (h : l.length = 2) : ∃ a b, l = [a, b] := by
  match l, h with
  | [a, b], _ => exact ⟨a, b, rfl⟩
theorem plan_ok (p : TPlan) (hk : ∀ q, q ∈ p.Kids → OkP k sz q) (hE : OkN k sz p.E) (hA : ∀ g, g ∈ p.Aggs → OkN k sz g.E) (hL : OkN k sz (p.E ++ p.Aggs.flatMap TGather.E)) (hn : weigh_nodes k p = some (p.E ++ p.Aggs.flatMap TGather.E)) : OkP (k + 1) sz p := by
  by_cases ha : (p.Kids.length : Int) = arity p.Kind
  · by_cases h1 : p.Kind = 1
    · have hc : cost (k + 1) sz p = (1, 1) := by unfold cost; rw [if_neg (by simpa using ha), if_pos h1]
      unfold OkP
      rw [hc]
      constructor
      · show weigh_Plan.F k (weigh_Plan k) (weigh_within k) sz p = _
        unfold weigh_Plan.F
        have := cost_nat k (show 1 ≤ 1099511627776 by omega) (show 1 ≤ 1099511627776 by omega)
        simp only [kids_arity, Option.bind_some, decide_eq_true ha, Bool.not_true, cond_false, decide_eq_true h1, cond_true]
        rw [show (1 : Int) = ((1 : Nat) : Int) from rfl, this]; rfl
      · show ref21_Plan.F k (ref21_Plan k) (ref21_inside k) sz p = _
        unfold ref21_Plan.F
        simp only [ref_arity, Option.bind_some, decide_eq_true ha, Bool.not_true, cond_false, decide_eq_true h1, cond_true]
        rfl
    · by_cases h3 : p.Kind ≤ 3
      · have h23 : p.Kind = 2 ∨ p.Kind = 3 := by
          unfold arity at ha
          split at ha
          · omega
          · split at ha
            · omega
            · split at ha <;> omega
        have hc : cost (k + 1) sz p = (rowsAt sz p.N, rowsAt sz p.N) := by unfold cost; rw [if_neg (by simpa using ha), if_neg h1, if_pos h3]
        have hr := rowsAt_le sz p.N
        unfold OkP
        rw [hc]
        constructor
        · show weigh_Plan.F k (weigh_Plan k) (weigh_within k) sz p = _
          unfold weigh_Plan.F
          have := cost_nat k (show rowsAt sz p.N ≤ 1099511627776 by omega) (show rowsAt sz p.N ≤ 1099511627776 by omega)
          simp only [kids_arity, Option.bind_some, decide_eq_true ha, Bool.not_true, cond_false, decide_eq_false h1]
          rcases h23 with h2 | h2
          · simp only [decide_eq_true h2, cond_true, Option.bind_some, size_rows, this]
          · simp only [decide_eq_false (show ¬ p.Kind = 2 by omega), decide_eq_true h2, cond_true, cond_false, Option.bind_some, size_rows, this]
        · show ref21_Plan.F k (ref21_Plan k) (ref21_inside k) sz p = _
          unfold ref21_Plan.F
          simp only [ref_arity, Option.bind_some, decide_eq_true ha, Bool.not_true, cond_false, decide_eq_false h1, decide_eq_true h3, cond_true]
          exact ref_size p.N
      · have h2 : ¬ p.Kind = 2 := by omega
        have h33 : ¬ p.Kind = 3 := by omega
        rcases arity_cases h3 with hm | ⟨hm, h6, h7, h11⟩ | ⟨hm, h8, h11, h67⟩
        · omega
        · obtain ⟨a, hKids⟩ := one_of_list (l := p.Kids) (by omega)
          have hoa := hk a (by rw [hKids]; simp)
          have hla := cost_le k sz a
          have hc : cost (k + 1) sz p = fin p.Kind p.N p.Keys.length (cut (nsum k sz (p.E ++ p.Aggs.flatMap TGather.E))) (cost k sz a).1 (cost k sz a).2 (cost k sz a).2 := by
            rw [cost, if_neg (by simpa using ha), if_neg h1, if_neg h3]
            simp only [hKids]
          unfold OkP
          rw [hc]
          constructor
          · show weigh_Plan.F k (weigh_Plan k) (weigh_within k) sz p = _
            unfold weigh_Plan.F
            have ht := tail_weigh (k := k) (sz := sz) p (nsum k sz (p.E ++ p.Aggs.flatMap TGather.E)) (cost k sz a).1 (cost k sz a).2 (cost k sz a).2 (cost k sz a).2 hla.1 hla.2 hla.2 hla.2 (fun _ => rfl) hn hL.1
            have hg : getO p.Kids (0 : Int) = some a := by rw [hKids]; rfl
            simp only [kids_arity, Option.bind_some, decide_eq_true ha, Bool.not_true, cond_false, decide_eq_false h1, decide_eq_false h2, decide_eq_false h33, hg, hoa.1, rowsOf_cp k hla.1 hla.2, decide_eq_false (show ¬ (p.Kids.length : Int) = 2 by omega)]
            exact ht
          · show ref21_Plan.F k (ref21_Plan k) (ref21_inside k) sz p = _
            unfold ref21_Plan.F
            have ht := tail_ref (k := k) (sz := sz) p (nsum k sz (p.E ++ p.Aggs.flatMap TGather.E)) (cost k sz a).1 (cost k sz a).2 (cost k sz a).2 hla.1 hla.2 hla.2 hE.2 hA rfl
            have hg : getO p.Kids (0 : Int) = some a := by rw [hKids]; rfl
            simp only [ref_arity, Option.bind_some, decide_eq_true ha, Bool.not_true, cond_false, decide_eq_false h1, decide_eq_false h3, hg, hoa.2, hm, decide_eq_true (show (p.Kids.length : Int) = 1 by omega), decide_eq_false (show ¬ (1 : Int) = 2 by omega)]
            exact ht
        · obtain ⟨a, b, hKids⟩ := two_of_list (l := p.Kids) (by omega)
          have hoa := hk a (by rw [hKids]; simp)
          have hob := hk b (by rw [hKids]; simp)
          have hla := cost_le k sz a
          have hlb := cost_le k sz b
          have htw := two_le p.Kind (rb := (cost k sz b).2) hla.2
          have hc : cost (k + 1) sz p = fin p.Kind p.N p.Keys.length (cut (nsum k sz (p.E ++ p.Aggs.flatMap TGather.E))) (cut ((cost k sz a).1 + (cost k sz b).1)) (two p.Kind (cost k sz a).2 (cost k sz b).2).1 (two p.Kind (cost k sz a).2 (cost k sz b).2).2 := by
            rw [cost, if_neg (by simpa using ha), if_neg h1, if_neg h3]
            simp only [hKids]
          unfold OkP
          rw [hc]
          have hg0 : getO p.Kids (0 : Int) = some a := by rw [hKids]; rfl
          have hg1 : getO p.Kids (1 : Int) = some b := by rw [hKids]; rfl
          constructor
          · show weigh_Plan.F k (weigh_Plan k) (weigh_within k) sz p = _
            unfold weigh_Plan.F
            have ht := tail_weigh (k := k) (sz := sz) p (nsum k sz (p.E ++ p.Aggs.flatMap TGather.E)) (cut ((cost k sz a).1 + (cost k sz b).1)) (two p.Kind (cost k sz a).2 (cost k sz b).2).1 (two p.Kind (cost k sz a).2 (cost k sz b).2).2 (cut ((cost k sz a).2 + (cost k sz b).2)) (cut_le _) (cut_le _) htw.1 htw.2 (fun h => absurd h h11) hn hL.1
            simp only [kids_arity, Option.bind_some, decide_eq_true ha, Bool.not_true, cond_false, decide_eq_false h1, decide_eq_false h2, decide_eq_false h33, hg0, hg1, hoa.1, hob.1, rowsOf_cp k hla.1 hla.2, rowsOf_cp k hlb.1 hlb.2, both_two k p.Kind hla.2 hlb.2, beside_cp k hla.1 hla.2 hlb.1 hlb.2, decide_eq_true (show (p.Kids.length : Int) = 2 by omega), cond_true]
            exact ht
          · show ref21_Plan.F k (ref21_Plan k) (ref21_inside k) sz p = _
            unfold ref21_Plan.F
            have ht := tail_ref (k := k) (sz := sz) p (nsum k sz (p.E ++ p.Aggs.flatMap TGather.E)) (cut ((cost k sz a).1 + (cost k sz b).1)) (two p.Kind (cost k sz a).2 (cost k sz b).2).1 (two p.Kind (cost k sz a).2 (cost k sz b).2).2 (cut_le _) htw.1 htw.2 hE.2 hA rfl
            simp only [ref_arity, Option.bind_some, decide_eq_true ha, Bool.not_true, cond_false, decide_eq_false h1, decide_eq_false h3, hg0, hg1, hoa.2, hob.2, hm, decide_eq_true (show (p.Kids.length : Int) = 2 by omega), decide_true, cond_true, add_cut k hla.1 hlb.1, add_cut k hla.2 hlb.2, times_cut k hla.2 hlb.2]
            refine Eq.trans ?_ ht
            unfold two
            by_cases h6 : p.Kind = 6
            · simp only [decide_eq_true h6, decide_eq_false (show ¬ p.Kind = 7 by omega), decide_eq_false (show ¬ (14 : Int) ≤ p.Kind by omega), cond_true, cond_false, Option.bind_some, if_pos h6]
            · by_cases h7 : p.Kind = 7
              · by_cases hb0 : (cost k sz b).2 = 0
                · simp only [decide_eq_false h6, decide_eq_true h7, decide_eq_true (show (((cost k sz b).2 : Nat) : Int) = 0 by omega), decide_eq_false (show ¬ (14 : Int) ≤ p.Kind by omega), cond_true, cond_false, Option.bind_some, if_neg h6, if_pos h7, hb0, show decide (((0 : Nat) : Int) = 0) = true from rfl, Nat.mul_zero, Nat.zero_max, Nat.mul_one, cut_of hla.2]
                · simp only [decide_eq_false h6, decide_eq_true h7, decide_eq_false (show ¬ (((cost k sz b).2 : Nat) : Int) = 0 by omega), decide_eq_false (show ¬ (14 : Int) ≤ p.Kind by omega), cond_true, cond_false, Option.bind_some, if_neg h6, if_pos h7, Nat.max_eq_left (show 1 ≤ (cost k sz b).2 by omega)]
              · by_cases h14 : (14 : Int) ≤ p.Kind
                · simp only [decide_eq_false h6, decide_eq_false h7, decide_eq_true h14, cond_true, cond_false, Option.bind_some, if_neg h6, if_neg h7, if_pos (show p.Kind = 14 ∨ p.Kind = 15 by omega)]
                · simp only [decide_eq_false h6, decide_eq_false h7, decide_eq_false h14, cond_false, Option.bind_some, if_neg h6, if_neg h7, if_neg (show ¬ (p.Kind = 14 ∨ p.Kind = 15) by omega)]
  · have hc : cost (k + 1) sz p = (0, 0) := by unfold cost; rw [if_pos ha]
    unfold OkP
    rw [hc]
    constructor
    · show weigh_Plan.F k (weigh_Plan k) (weigh_within k) sz p = _
      unfold weigh_Plan.F
      simp only [kids_arity, Option.bind_some, decide_eq_false ha, Bool.not_false, cond_true]
      unfold cp; rw [F_zero]
    · show ref21_Plan.F k (ref21_Plan k) (ref21_inside k) sz p = _
      unfold ref21_Plan.F
      simp only [ref_arity, Option.bind_some, decide_eq_false ha, Bool.not_false, cond_true]
      rfl
end
/-- What the guard lets in. -/
theorem all_ok (sz : List Int) : ∀ k, (∀ p d v, law10_WeighPlan k p d = some v → v ≤ 300 → OkP k sz p) ∧ (∀ l d v, law10_weighNodes k l d = some v → v ≤ 300 → ∃ j, k = j + 1 ∧ l.length ≤ 300 ∧ ∀ n, n ∈ l → NodeOk j sz n)
  | 0 => ⟨(fun p d v h => by cases h), (fun l d v h => by cases h)⟩
  | k + 1 => by
    obtain ⟨ihP, ihN⟩ := all_ok sz k
    have nok : ∀ l d v, law10_weighNodes k l d = some v → v ≤ 300 → OkN k sz l := fun l d v h hv => by
      obtain ⟨j, rfl, _, h2⟩ := ihN l d v h hv
      exact nodes_ok l h2
    constructor
    · intro p d v h hv
      obtain ⟨h1, ⟨d1, v1, h2, h3⟩, h4, h5⟩ := plan_info h hv
      obtain ⟨j, hj, hl, hE⟩ := ihN _ _ _ h2 h3
      have hA : ∀ g, g ∈ p.Aggs → g.E.length ≤ 300 ∧ ∀ n, n ∈ g.E → NodeOk j sz n := fun g hg => by
        obtain ⟨d2, v2, h6, h7⟩ := h4 g hg
        obtain ⟨j', hj', hl', hE'⟩ := ihN _ _ _ h6 h7
        obtain rfl : j' = j := by omega
        exact ⟨hl', hE'⟩
      refine plan_ok p (fun q hq => ?_) (nok _ _ _ h2 h3) (fun g hg => ?_) ?_ (aggs_weigh p hl h1 fun g hg => (hA g hg).1)
      · obtain ⟨d2, v2, h6, h7⟩ := h5 q hq
        exact ihP q d2 v2 h6 h7
      · obtain ⟨d2, v2, h6, h7⟩ := h4 g hg
        exact nok _ _ _ h6 h7
      · subst hj
        refine nodes_ok _ fun n hn => ?_
        rcases List.mem_append.1 hn with hn | hn
        · exact hE n hn
        · obtain ⟨g, hg, hn⟩ := List.mem_flatMap.1 hn
          exact (hA g hg).2 n hn
    · intro l d v h hv
      obtain ⟨h1, h2⟩ := nodes_info h hv
      refine ⟨k, rfl, h1, fun n hn => ?_⟩
      obtain ⟨⟨d1, v1, h3, h4⟩, h5, h6, h7⟩ := h2 n hn
      refine ⟨nok _ _ _ h3 h4, h5, h6, fun q hq => ?_⟩
      obtain ⟨d2, v2, h8, h9⟩ := h7 q hq
      exact ihP q d2 v2 h8 h9
theorem alive5 : law21_alive 5 = some true := by decide +kernel
theorem alive_w (k : Nat) (hk : 5 ≤ k) : law21_alive k = some true := LeO.iter (g := law21_alive) (fun k => law21_alive.mono k) hk _ alive5
theorem ceq_cp {s r : Nat} (hs : s ≤ 1099511627776) (hr : r ≤ 1099511627776) : ceq (cp s r) (cp s r) = true := by
  unfold ceq cp
  simp only [feq_F (show s < 2 ^ 53 by omega) (show s < 2 ^ 53 by omega), feq_F (show r < 2 ^ 53 by omega) (show r < 2 ^ 53 by omega), decide_true, Bool.and_self]
theorem WeighPlans_law (sz : List Int) (p : TPlan) : ∃ k, law21_WeighPlans k sz p = some true := by
  refine ⟨1063, ?_⟩
  obtain ⟨v, hv⟩ := (count_ends 61 0 (by omega) (by omega)).1 p
  have hal := alive_w 1063 (by omega)
  unfold law21_WeighPlans
  rw [hv]
  simp only [Option.bind_some]
  by_cases h : 300 < v
  · simp only [decide_eq_true h, cond_true, Option.bind_some, hal]
  · by_cases hl : (60 : Int) < (sz.length : Int)
    · simp only [decide_eq_false h, decide_eq_true hl, cond_true, cond_false, Option.bind_some, hal]
    · have hok := (all_ok sz 1063).1 p 0 v hv (by omega)
      have hc := cost_le 1063 sz p
      have hp : law04_Point 1063 ⟨((cost 1063 sz p).1 : Int), ((cost 1063 sz p).2 : Int), false⟩ = some (cp (cost 1063 sz p).1 (cost 1063 sz p).2) := by
        unfold law04_Point cp
        simp only [cond_false, fof]
      simp only [decide_eq_false h, decide_eq_false hl, cond_false, Option.bind_some, hok.1, hok.2, hp, ceq_cp hc.1 hc.2, right_cp 1063 hc.1 hc.2, cond_true, hal]
theorem WeighMore_law (sz : List Int) (p : TPlan) (which by_ : Int) : ∃ k, law21_WeighMore k sz p which by_ = some true := by
  refine ⟨1063, ?_⟩
  obtain ⟨v, hv⟩ := (count_ends 61 0 (by omega) (by omega)).1 p
  have hal := alive_w 1063 (by omega)
  unfold law21_WeighMore
  rw [hv]
  simp only [Option.bind_some]
  by_cases h : 300 < v
  · simp only [decide_eq_true h, cond_true, Option.bind_some, hal]
  · by_cases hl : (60 : Int) < (sz.length : Int)
    · simp only [decide_eq_false h, decide_eq_true hl, cond_true, cond_false, Option.bind_some, hal]
    · by_cases h0 : (sz.length : Int) = 0
      · simp only [decide_eq_false h, decide_eq_false hl, decide_eq_true h0, cond_true, cond_false, Option.bind_some, hal]
      · have r1 : remO which (sz.length : Int) = some (which.tmod sz.length) := by unfold remO; rw [if_neg h0]
        have b1 : -(sz.length : Int) < which.tmod sz.length ∧ which.tmod sz.length < sz.length := by
          have := Int.tmod_lt_of_pos which (show (0 : Int) < sz.length by omega)
          have := Int.lt_tmod_of_pos which (show (0 : Int) < sz.length by omega)
          omega
        have w1 : w64 (which.tmod sz.length + (sz.length : Int)) = which.tmod sz.length + sz.length := w64_id (by omega)
        have r2 : remO (which.tmod sz.length + (sz.length : Int)) (sz.length : Int) = some ((which.tmod sz.length + sz.length).tmod sz.length) := by unfold remO; rw [if_neg h0]
        obtain ⟨t, ht, ht2⟩ : ∃ t : Nat, (which.tmod sz.length + (sz.length : Int)).tmod sz.length = (t : Int) ∧ t < sz.length := by
          have h3 := Int.tmod_nonneg (sz.length : Int) (show 0 ≤ which.tmod sz.length + (sz.length : Int) by omega)
          have h4 := Int.tmod_lt_of_pos (which.tmod sz.length + (sz.length : Int)) (show (0 : Int) < sz.length by omega)
          exact ⟨((which.tmod sz.length + (sz.length : Int)).tmod sz.length).toNat, by omega, by omega⟩
        obtain ⟨x, hx⟩ : ∃ x, sz[t]? = some x := ⟨_, List.getElem?_eq_getElem ht2⟩
        have hok := (all_ok sz 1063).1 p 0 v hv (by omega)
        have hok2 := (all_ok (sz.set t (max x by_)) 1063).1 p 0 v hv (by omega)
        have hc := cost_le 1063 sz p
        have hc2 := cost_le 1063 (sz.set t (max x by_)) p
        have hm := (more (sz := sz) (sz' := sz.set t (max x by_)) (fun i => by
          unfold rowsAt
          rw [List.length_set]
          split
          · rename_i hi
            simp only [List.getD_eq_getElem?_getD, List.getElem?_set]
            by_cases he : t = i.toNat
            · subst he
              rw [if_pos rfl, if_pos ht2, hx]
              simp only [Option.getD_some]
              omega
            · rw [if_neg he]; omega
          · omega) 1063).1 p
        simp only [decide_eq_false h, decide_eq_false hl, decide_eq_false h0, cond_false, Option.bind_some, r1, w1, r2, ht, List.length_nil, Nat.zero_add, lim_ok (show sz.length ≤ 4294967296 by omega), List.nil_append, getO_nat, hx, setO_nat, hok.1, hok2.1, within_cp 1063 hc.1 hc.2 hc2.1 hc2.2 hm.1 hm.2, cond_true, hal]
end Go.Proofs.Ytliaopbgkcdibaa
