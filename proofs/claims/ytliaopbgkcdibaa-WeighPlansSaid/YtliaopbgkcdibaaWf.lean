/- WeighPlans and WeighMore, the plain laws: what any plan costs is as the reference says; with more rows in tables nothing costs less. No program in sight. -/
import Derived.Test.YtliaopbgkcdibaaWe
set_option linter.unusedVariables false
set_option linter.unusedSimpArgs false
namespace Go.Proofs.Ytliaopbgkcdibaa
section
variable {k : Nat} {sz : List Int}
theorem aggs_weigh (p : TPlan) (h1 : p.E.length ≤ 300) (h2 : p.Aggs.length ≤ 300) (h3 : ∀ g, g ∈ p.Aggs → g.E.length ≤ 300) : weigh_nodes k p = some (p.E ++ p.Aggs.flatMap TGather.E) := by
  unfold weigh_nodes
  rw [lim_ok (by simp; omega)]
  simp only [Option.bind_some, List.nil_append]
  have key : ∀ (l : List TGather) (i : Nat) (s : List TNode), s.length + 300 * l.length ≤ 4294967296 → (∀ g, g ∈ l → g.E.length ≤ 300) → forL (weigh_nodes.b0 k) i l s = some (.go (s ++ l.flatMap TGather.E)) := by
    intro l
    induction l with
    | nil => intro i s _ _; simp [forL]
    | cons g l ih =>
      intro i s hs hg
      have hge := hg g List.mem_cons_self
      simp only [List.length_cons] at hs
      rw [forL]
      unfold weigh_nodes.b0
      rw [lim_ok (by omega)]
      simp only [Option.bind_some]
      have := ih (i + 1) (s ++ g.E) (by simp only [List.length_append]; omega) (fun x hx => hg x (List.mem_cons_of_mem _ hx))
      unfold weigh_nodes.b0 at this
      rw [this]
      simp
  rw [key p.Aggs 0 p.E (by omega) h3]
  rfl
theorem cut_mid (s a b : Nat) : cut (s + cut a + b) = cut (s + (a + b)) := by unfold cut; omega
theorem aggs_ref : ∀ (l : List TGather) (i : Nat) (s : Nat), s ≤ 1099511627776 → (∀ g, g ∈ l → OkN k sz g.E) → forL (ref21_Plan.b0 k (ref21_Plan k) (ref21_inside k) sz) i l (s : Int) = some (.go ((cut (s + nsum k sz (l.flatMap TGather.E)) : Nat) : Int))
  | [], i, s, hs, _ => by
    have : nsum k sz [] = 0 := by cases k <;> simp [nsum]
    simp [forL, this, cut_of hs]
  | g :: l, i, s, hs, h => by
    have hg := h g List.mem_cons_self
    have ih := aggs_ref l (i + 1) (cut (s + cut (nsum k sz g.E))) (cut_le _) (fun x hx => h x (List.mem_cons_of_mem _ hx))
    rw [forL]
    have hb : ref21_Plan.b0 k (ref21_Plan k) (ref21_inside k) sz i g (s : Int) = some (.next ((cut (s + cut (nsum k sz g.E)) : Nat) : Int)) := by
      unfold ref21_Plan.b0
      simp only [hg.2, Option.bind_some, add_cut k hs (cut_le _)]
    rw [hb]
    simp only [Option.bind_some]
    rw [ih]
    simp only [cut_add, List.flatMap_cons, nsum_append, cut_mid]
theorem ref_size (i : Int) : (((bif decide ((0 : Int) ≤ i) then some (decide (i < (sz.length : Int))) else some false)).bind fun m40 => (((bif m40 then ((getO sz i).bind fun y78 => some y78) else some ((0 : Int)))).bind fun m55 => (((bif decide (m55 < (0 : Int)) then some ((0 : Int)) else some m55)).bind fun m61 => (((bif decide ((100 : Int) < m61) then some ((100 : Int)) else some m61)).bind fun m67 => some (Tref04_Cost.mk m67 m67 false))))) = some ⟨(rowsAt sz i : Int), (rowsAt sz i : Int), false⟩ := by
  unfold rowsAt
  by_cases h : 0 ≤ i ∧ i < sz.length
  · have hl : i.toNat < sz.length := by omega
    have hg : getO sz i = some (sz.getD i.toNat 0) := by
      unfold getO
      rw [if_pos (by omega), List.getElem?_eq_getElem hl, List.getD_eq_getElem?_getD, List.getElem?_eq_getElem hl]; rfl
    rw [if_pos h]
    simp only [decide_eq_true h.1, decide_eq_true h.2, cond_true, Option.bind_some, hg]
    generalize sz.getD i.toNat 0 = x
    by_cases h1 : x < 0
    · simp only [decide_eq_true h1, cond_true, Option.bind_some, decide_eq_false (show ¬ (100 : Int) < 0 by omega), cond_false]
      rw [show ((max (0 : Int) (min x 100)).toNat : Int) = 0 by omega]
    · by_cases h2 : 100 < x
      · simp only [decide_eq_false h1, cond_false, Option.bind_some, decide_eq_true h2, cond_true]
        rw [show ((max (0 : Int) (min x 100)).toNat : Int) = 100 by omega]
      · simp only [decide_eq_false h1, cond_false, Option.bind_some, decide_eq_false h2]
        rw [show ((max (0 : Int) (min x 100)).toNat : Int) = x by omega]
  · rw [if_neg h]
    by_cases h0 : 0 ≤ i
    · simp only [decide_eq_true h0, decide_eq_false (show ¬ i < (sz.length : Int) from fun h1 => h ⟨h0, h1⟩), cond_true, cond_false, Option.bind_some, decide_eq_false (show ¬ (0 : Int) < 0 by omega), decide_eq_false (show ¬ (100 : Int) < 0 by omega)]; rfl
    · simp only [decide_eq_false h0, cond_false, Option.bind_some, decide_eq_false (show ¬ (0 : Int) < 0 by omega), decide_eq_false (show ¬ (100 : Int) < 0 by omega)]; rfl
theorem arity_cases {kind : Int} (h3 : ¬ kind ≤ 3) : (arity kind = -1) ∨ (arity kind = 1 ∧ ¬ kind = 6 ∧ ¬ kind = 7 ∧ kind ≤ 11) ∨ (arity kind = 2 ∧ ¬ kind = 8 ∧ ¬ kind = 11 ∧ (kind = 6 ∨ kind = 7 ∨ kind = 12 ∨ kind = 13 ∨ kind = 14 ∨ kind = 15)) := by
  unfold arity
  split
  · omega
  · split
    · right; left; omega
    · split
      · right; right; omega
      · exact .inl rfl
/-- the end of the program's reckoning -/
theorem tail_weigh (p : TPlan) (W s l r r0 : Nat) (hs : s ≤ 1099511627776) (hr0 : r0 ≤ 1099511627776) (hl : l ≤ 1099511627776) (hr : r ≤ 1099511627776) (hlr : p.Kind = 11 → l = r) (hn : weigh_nodes k p = some (p.E ++ p.Aggs.flatMap TGather.E)) (hW : weigh_within k sz (p.E ++ p.Aggs.flatMap TGather.E) = some (cp (cut W) 0)) :
    ((plane_Steps k (cp l r)).bind fun y177 => (((bif decide (p.Kind = (11 : Int)) then ((weigh_cost k y177 (min y177 p.N)).bind fun y270 => some y270) else (bif decide (p.Kind = (8 : Int)) then (bif decide ((p.Keys.length : Int) = (0 : Int)) then ((weigh_cost k y177 (1 : Int)).bind fun y278 => some y278) else some (cp l r)) else some (cp l r)))).bind fun m200 => ((weigh_cost k (0 : Int) y177).bind fun y242 => ((weigh_nodes k p).bind fun y246 => ((weigh_within k sz y246).bind fun y253 => ((plane_Nest k y242 y253).bind fun y257 => ((plane_Then k (cp s r0) y257).bind fun y261 => ((plane_Then k y261 m200).bind fun y265 => some y265)))))))) = some (cp (fin p.Kind p.N p.Keys.length (cut W) s l r).1 (fin p.Kind p.N p.Keys.length (cut W) s l r).2) := by
  have hc : (cut (l * cut W)) ≤ 1099511627776 := cut_le _
  have e0 : weigh_cost k (0 : Int) (l : Int) = some (cp 0 l) := cost_nat k (show 0 ≤ 1099511627776 by omega) hl
  have e1 : plane_Nest k (cp 0 l) (cp (cut W) 0) = some (cp (cut (l * cut W)) 0) := by
    rw [nest_cp k (by omega) hl (cut_le _) (by omega), Nat.zero_add, cut_cut, Nat.mul_zero]; rfl
  have key : ∀ rows, rows ≤ 1099511627776 → plane_Then k (cp (cut (s + cut (l * cut W))) 0) (cp l rows) = some (cp (cut (cut (s + cut (l * cut W)) + l)) rows) := fun rows h => then_cp k (cut_le _) (by omega) hl h
  simp only [steps_cp k hl hr, Option.bind_some]
  by_cases h11 : p.Kind = 11
  · have := hlr h11
    subst this
    have e2 : weigh_cost k (l : Int) (min (l : Int) p.N) = some (cp l (min l p.N.toNat)) := by
      rw [cost_any, Int.toNat_natCast, cut_of hl, show (min (l : Int) p.N).toNat = min l p.N.toNat by omega, cut_of (by omega)]
    simp only [decide_eq_true h11, cond_true, e2, Option.bind_some, e0, hn, hW, e1, then_cp k hs hr0 hc (show 0 ≤ 1099511627776 by omega), key _ (show min l p.N.toNat ≤ 1099511627776 by omega), fin, if_pos h11]
  · by_cases h8 : p.Kind = 8
    · by_cases hk : p.Keys.length = 0
      · have e2 : weigh_cost k (l : Int) (1 : Int) = some (cp l 1) := cost_nat k hl (show 1 ≤ 1099511627776 by omega)
        simp only [decide_eq_false h11, decide_eq_true h8, decide_eq_true (show (p.Keys.length : Int) = 0 by omega), cond_true, cond_false, e2, Option.bind_some, e0, hn, hW, e1, then_cp k hs hr0 hc (show 0 ≤ 1099511627776 by omega), key _ (show 1 ≤ 1099511627776 by omega), fin, if_neg h11, if_pos (show p.Kind = 8 ∧ p.Keys.length = 0 from ⟨h8, hk⟩)]
      · simp only [decide_eq_false h11, decide_eq_true h8, decide_eq_false (show ¬ (p.Keys.length : Int) = 0 by omega), cond_true, cond_false, Option.bind_some, e0, hn, hW, e1, then_cp k hs hr0 hc (show 0 ≤ 1099511627776 by omega), key _ hr, fin, if_neg h11, if_neg (show ¬ (p.Kind = 8 ∧ p.Keys.length = 0) from fun h => hk h.2)]
    · simp only [decide_eq_false h11, decide_eq_false h8, cond_false, Option.bind_some, e0, hn, hW, e1, then_cp k hs hr0 hc (show 0 ≤ 1099511627776 by omega), key _ hr, fin, if_neg h11, if_neg (show ¬ (p.Kind = 8 ∧ p.Keys.length = 0) from fun h => h8 h.1)]
theorem then_any (s r : Nat) (hs : s ≤ 1099511627776) (hr : r ≤ 1099511627776) (x : Nat × Nat) (a b : Nat) (ha : a ≤ 1099511627776) (hb : b ≤ 1099511627776) (hx : x = cp a b) : plane_Then k (cp s r) x = plane_Then k (cp s 0) x := by
  subst hx
  rw [then_cp k hs hr ha hb, then_cp k hs (by omega) ha hb]
/-- the end of the reference's -/
theorem tail_ref (p : TPlan) (W s l r : Nat) (hs : s ≤ 1099511627776) (hl : l ≤ 1099511627776) (hr : r ≤ 1099511627776) (hE : ref21_inside k sz p.E = some ((cut (nsum k sz p.E) : Nat) : Int)) (hA : ∀ g, g ∈ p.Aggs → OkN k sz g.E) (hW : W = nsum k sz (p.E ++ p.Aggs.flatMap TGather.E)) :
    (((((bif decide (p.Kind = (11 : Int)) then some (decide (p.N < ((r : Nat) : Int))) else some false)).bind fun m265 => (((bif m265 then (bif decide (p.N < (0 : Int)) then some ((0 : Int)) else some p.N) else some ((r : Nat) : Int))).bind fun m273 => (((bif decide (p.Kind = (8 : Int)) then some (decide ((p.Keys.length : Int) = (0 : Int))) else some false)).bind fun m280 => (((bif m280 then some ((1 : Int)) else some m273)).bind fun m286 => ((ref21_inside k sz p.E).bind fun y294 => ((forL (ref21_Plan.b0 k (ref21_Plan k) (ref21_inside k) sz) 0 p.Aggs y294).bind (Lr.k (fun r => some r) (fun s376 => ((ref21_times k ((l : Nat) : Int) s376).bind fun y383 => ((ref21_add k ((s : Nat) : Int) y383).bind fun y387 => ((ref21_add k y387 ((l : Nat) : Int)).bind fun y391 => some (Tref04_Cost.mk y391 m286 false))))))))))))) : Option Tref04_Cost) = some ⟨((fin p.Kind p.N p.Keys.length (cut W) s l r).1 : Int), ((fin p.Kind p.N p.Keys.length (cut W) s l r).2 : Int), false⟩ := by
  have h1 := aggs_ref (k := k) (sz := sz) p.Aggs 0 (cut (nsum k sz p.E)) (cut_le _) hA
  rw [cut_add, ← nsum_append, ← hW] at h1
  have fin1 : ∀ m : Int, ((ref21_inside k sz p.E).bind fun y294 => ((forL (ref21_Plan.b0 k (ref21_Plan k) (ref21_inside k) sz) 0 p.Aggs y294).bind (Lr.k (fun r => some r) (fun s376 => ((ref21_times k ((l : Nat) : Int) s376).bind fun y383 => ((ref21_add k ((s : Nat) : Int) y383).bind fun y387 => ((ref21_add k y387 ((l : Nat) : Int)).bind fun y391 => some (Tref04_Cost.mk y391 m false)))))))) = some ⟨((cut (cut (s + cut (l * cut W)) + l) : Nat) : Int), m, false⟩ := fun m => by
    simp only [hE, Option.bind_some, h1, Lr.k, times_cut k hl (cut_le _), add_cut k hs (cut_le _), add_cut k (cut_le _) hl]
  by_cases h11 : p.Kind = 11
  · have h8 : ¬ p.Kind = 8 := by omega
    by_cases hN : p.N < (r : Int)
    · by_cases hN0 : p.N < 0
      · simp only [decide_eq_true h11, decide_eq_true hN, decide_eq_true hN0, decide_eq_false h8, cond_true, cond_false, Option.bind_some, fin1, fin, if_pos h11]
        rw [show ((min r p.N.toNat : Nat) : Int) = 0 by omega]
      · simp only [decide_eq_true h11, decide_eq_true hN, decide_eq_false hN0, decide_eq_false h8, cond_true, cond_false, Option.bind_some, fin1, fin, if_pos h11]
        rw [show ((min r p.N.toNat : Nat) : Int) = p.N by omega]
    · simp only [decide_eq_true h11, decide_eq_false hN, decide_eq_false h8, cond_true, cond_false, Option.bind_some, fin1, fin, if_pos h11]
      rw [show ((min r p.N.toNat : Nat) : Int) = r by omega]
  · by_cases h8 : p.Kind = 8
    · by_cases hk : p.Keys.length = 0
      · simp only [decide_eq_false h11, decide_eq_true h8, decide_eq_true (show (p.Keys.length : Int) = 0 by omega), cond_true, cond_false, Option.bind_some, fin1, fin, if_neg h11, if_pos (show p.Kind = 8 ∧ p.Keys.length = 0 from ⟨h8, hk⟩)]
        rfl
      · simp only [decide_eq_false h11, decide_eq_true h8, decide_eq_false (show ¬ (p.Keys.length : Int) = 0 by omega), cond_true, cond_false, Option.bind_some, fin1, fin, if_neg h11, if_neg (show ¬ (p.Kind = 8 ∧ p.Keys.length = 0) from fun h => hk h.2)]
    · simp only [decide_eq_false h11, decide_eq_false h8, cond_false, Option.bind_some, fin1, fin, if_neg h11, if_neg (show ¬ (p.Kind = 8 ∧ p.Keys.length = 0) from fun h => h8 h.1)]
end
end Go.Proofs.Ytliaopbgkcdibaa
