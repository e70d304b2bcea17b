import Derived.Test.YtknhbphhdfknaaaGreatDoorCxJ
import Derived.OrdersHeld
import Derived.Deep.RegionHeld3
set_option linter.unusedVariables false
set_option linter.unusedSimpArgs false
namespace Go.Proofs.YtknhbphhdfknaaaGreatDoor
open Go.RowKit
section
variable {P : Program} {ops : Array Oper} {Q : Exit → Act → World → Prop} {md : Region.Mode} {S : World → Prop} {ds : List Nat}
def Region.reachB (md : Region.Mode) (ops : Array Oper) (i : Nat) : Nat → Nat → Bool
 | 0, _ => false
 | fuel + 1, d => match ops[d]? with
  | some o => o.after.any fun e => Region.binds md e && (e.on == i || Region.reachB md ops i fuel e.on)
  | none => false
def Region.closedB (md : Region.Mode) (ops : Array Oper) (listed : Array Bool) : Bool :=
 (List.range ops.size).all fun j => !listed.getD j false || match ops[j]? with
  | some o => o.after.all fun e => !Region.binds md e || listed.getD e.on false
  | none => true
def Region.lastB (md : Region.Mode) (ops : Array Oper) (listed : Array Bool) (ds : List Nat) (i : Nat) : Bool :=
 ds.all fun d => listed.getD d true || Region.reachB md ops i ops.size d
def ListedClosed (md : Region.Mode) (ops : Array Oper) (listed : Array Bool) : Prop :=
 ∀ j oj, ops[j]? = some oj → listed.getD j false = true → ∀ e ∈ oj.after, Region.binds md e = true → listed.getD e.on false = true
theorem Region.closedB_spec {listed : Array Bool} (h : Region.closedB md ops listed = true) : ListedClosed md ops listed := by
 intro j oj hj hl e he hb
 have hlt : j < ops.size := (Array.getElem?_eq_some_iff.1 hj).1
 have h1 := List.all_eq_true.1 h j (List.mem_range.2 hlt)
 simp only [hl, hj, Bool.not_true, Bool.false_or] at h1
 have h2 := Array.all_eq_true_iff_forall_mem.1 h1 e he
 simpa [hb] using h2
theorem ListedClosed.set {listed : Array Bool} {i : Nat} (h : ListedClosed md ops listed) (hi : i ∈ Region.ready md ops listed) : ListedClosed md ops (listed.setIfInBounds i true) := by
 obtain ⟨_, oi, hoi, hall⟩ := mem_ready.1 hi
 intro j oj hj hl e he hb
 by_cases hij : i = j
 · subst hij
   have : oj = oi := Option.some.inj (hj.symm.trans hoi)
   subst this
   exact getD_set_true (hall e he hb)
 · rw [getD_set_ne false hij] at hl
   exact getD_set_true (h j oj hj hl e he hb)
theorem Region.reach_listed {listed : Array Bool} {i : Nat} (hc : ListedClosed md ops listed) : ∀ (fuel d : Nat), Region.reachB md ops i fuel d = true → listed.getD d false = true → listed.getD i false = true
 | 0, _, h, _ => by simp [Region.reachB] at h
 | fuel + 1, d, h, hl => by
  unfold Region.reachB at h
  cases ho : ops[d]? with
  | none => rw [ho] at h; simp at h
  | some o =>
   rw [ho] at h
   obtain ⟨e, he, h1⟩ := Array.any_eq_true'.1 h
   simp only [Bool.and_eq_true, Bool.or_eq_true, beq_iff_eq] at h1
   have hle := hc d o ho hl e he h1.1
   rcases h1.2 with h2 | h2
   · rw [← h2]; exact hle
   · exact Region.reach_listed hc fuel e.on h2 hle
theorem Region.reach_not_ready {listed : Array Bool} {i d fuel : Nat} (hc : ListedClosed md ops listed) (hr : Region.reachB md ops i fuel d = true) (hun : listed.getD i true = false) : d ∉ Region.ready md ops listed := by
 intro hd
 obtain ⟨_, o, ho, hall⟩ := mem_ready.1 hd
 have hi : listed.getD i false = true := by
  cases fuel with
  | zero => simp [Region.reachB] at hr
  | succ n =>
   unfold Region.reachB at hr
   rw [ho] at hr
   obtain ⟨e, he, h1⟩ := Array.any_eq_true'.1 hr
   simp only [Bool.and_eq_true, Bool.or_eq_true, beq_iff_eq] at h1
   have hle := hall e he h1.1
   rcases h1.2 with h2 | h2
   · rw [← h2]; exact hle
   · exact Region.reach_listed hc n e.on h2 hle
 rcases Nat.lt_or_ge i listed.size with h' | h'
 · simp [h'] at hun hi
   rw [hun] at hi
   cases hi
 · simp [Array.getElem?_eq_none h'] at hun
def wpAnyLast (P : Program) (md : Region.Mode) (ops : Array Oper) (Q : Exit → Act → World → Prop) (S : World → Prop) (ds : List Nat) : Nat → Array Bool → Act → World → Prop
 | 0, listed, a, w => Region.ready md ops listed = [] ∧ Q .normal a w
 | fuel + 1, listed, a, w =>
  (Region.ready md ops listed = [] → Q .normal a w) ∧
  ∀ i ∈ Region.ready md ops listed, wpOp P ops Q i (fun a' w' => (i ∉ ds → S w → S w') ∧ wpAnyLast P md ops Q S ds fuel (listed.setIfInBounds i true) a' w') a w
theorem wpAny_of_last : ∀ (fuel : Nat) (listed : Array Bool) (a : Act) (w : World), wpAnyLast P md ops Q S ds fuel listed a w → wpAny P md ops Q fuel listed a w
 | 0, _, _, _, h => h
 | fuel + 1, _, _, _, h => ⟨h.1, fun i hi => wpOp_mono (fun a' w' h' => wpAny_of_last fuel _ a' w' h'.2) (h.2 i hi)⟩
theorem wpAnyLast_first {i : Nat} {oi : Oper} {v : Value} (hi : ops[i]? = some oi) (hsel : ∀ (j : Nat) (o : Oper) cs b, ops[j]? = some o → o.op ≠ .select cs b)
 (hQ : ∀ c a w, Q (.panic c) (a.put oi.dst v) w → Q (.panic c) a w) (n : Nat) :
 ∀ (fuel : Nat) (listed : Array Bool) (a : Act) (w : World),
  (∀ j oj, ops[j]? = some oj → j ≠ i → listed.getD j true = false → (∀ e ∈ oj.after, Region.binds md e = true → e.on ≠ i) → oi.apart ops oj = true) →
  ListedClosed md ops listed → (∀ d ∈ ds, listed.getD d true = false → Region.reachB md ops i n d = true) →
  i ∈ Region.ready md ops listed → YieldsIf P ops S oi v a → S w →
  wpAnyLast P md ops Q S ds fuel (listed.setIfInBounds i true) (a.put oi.dst v) w → wpAnyLast P md ops Q S ds (fuel + 1) listed a w := by
 intro fuel
 induction fuel with
 | zero =>
  intro listed a w _ _ _ hr hy hS H
  refine ⟨fun h => (by rw [h] at hr; cases hr), fun j hj => ?_⟩
  by_cases hji : j = i
  · subst hji; exact hy.wpOp hi hS ⟨fun _ h => h, H⟩
  · have := ready_mono hj hji
    rw [H.1] at this
    cases this
 | succ fuel ih =>
  intro listed a w hfree hc hd hr hy hS H
  refine ⟨fun h => (by rw [h] at hr; cases hr), fun j hj => ?_⟩
  by_cases hji : j = i
  · subst hji; exact hy.wpOp hi hS ⟨fun _ h => h, H⟩
  · have h1 := H.2 j (ready_mono hj hji)
    obtain ⟨hjun, oj, hoj, hall⟩ := mem_ready.1 hj
    have hiun := (mem_ready.1 hr).1
    have hnot : ∀ e ∈ oj.after, Region.binds md e = true → e.on ≠ i := fun e he hb heq => by
     have h1 := hall e he hb
     rw [heq] at h1
     rcases Nat.lt_or_ge i listed.size with h' | h'
     · simp [h'] at hiun h1; rw [hiun] at h1; cases h1
     · simp [Array.getElem?_eq_none h'] at h1
    have hjd : j ∉ ds := fun hm => Region.reach_not_ready hc (hd j hm hjun) hiun hj
    have h2 := wpOp_putIf hoj (hfree j oj hoj hji hjun hnot) (fun cs b => hsel i oi cs b hi) (fun cs b => hsel j oj cs b hoj) hQ hy h1
    have hfree' : ∀ k ok, ops[k]? = some ok → k ≠ i → (listed.setIfInBounds j true).getD k true = false →
     (∀ e ∈ ok.after, Region.binds md e = true → e.on ≠ i) → oi.apart ops ok = true := fun k ok hk hki hun hno => by
     refine hfree k ok hk hki ?_ hno
     by_cases hjk : j = k
     · subst hjk; exact hjun
     · rw [getD_set_ne true hjk] at hun; exact hun
    have hd' : ∀ d ∈ ds, (listed.setIfInBounds j true).getD d true = false → Region.reachB md ops i n d = true := fun d hm hun => by
     refine hd d hm ?_
     by_cases hjk : j = d
     · subst hjk; exact hjun
     · rw [getD_set_ne true hjk] at hun; exact hun
    refine wpOp_mono (fun a' w' h3 => ⟨h3.2.1, ih (listed.setIfInBounds j true) a' w' hfree' (hc.set hj) hd' (ready_mono hr (Ne.symm hji)) h3.1 (h3.2.1 hjd hS) ?_⟩) h2
    rw [Array.setIfInBounds_comm _ _ hji]
    exact h3.2.2
theorem wpAnyLast_any {i : Nat} {oi : Oper} {v : Value} (hi : ops[i]? = some oi) (hsel : ∀ (j : Nat) (o : Oper) cs b, ops[j]? = some o → o.op ≠ .select cs b)
 (hQ : ∀ c a w, Q (.panic c) (a.put oi.dst v) w → Q (.panic c) a w) :
 ∀ (fuel : Nat) (listed : Array Bool) (a : Act) (w : World),
  (∀ j oj, ops[j]? = some oj → j ≠ i → listed.getD j true = false → (∀ e ∈ oj.after, Region.binds md e = true → e.on ≠ i) → oi.apart ops oj = true) →
  i ∈ Region.ready md ops listed → Yields P ops oi v a →
  wpAnyLast P md ops Q S ds fuel (listed.setIfInBounds i true) (a.put oi.dst v) w → wpAnyLast P md ops Q S ds (fuel + 1) listed a w := by
 intro fuel
 induction fuel with
 | zero =>
  intro listed a w _ hr hy H
  refine ⟨fun h => (by rw [h] at hr; cases hr), fun j hj => ?_⟩
  by_cases hji : j = i
  · subst hji; exact (hy.yieldsIf (S := fun _ => True)).wpOp hi trivial ⟨fun _ h => h, H⟩
  · have := ready_mono hj hji
    rw [H.1] at this
    cases this
 | succ fuel ih =>
  intro listed a w hfree hr hy H
  refine ⟨fun h => (by rw [h] at hr; cases hr), fun j hj => ?_⟩
  by_cases hji : j = i
  · subst hji; exact (hy.yieldsIf (S := fun _ => True)).wpOp hi trivial ⟨fun _ h => h, H⟩
  · have h1 := H.2 j (ready_mono hj hji)
    obtain ⟨hjun, oj, hoj, hall⟩ := mem_ready.1 hj
    have hiun := (mem_ready.1 hr).1
    have hnot : ∀ e ∈ oj.after, Region.binds md e = true → e.on ≠ i := fun e he hb heq => by
     have h1 := hall e he hb
     rw [heq] at h1
     rcases Nat.lt_or_ge i listed.size with h' | h'
     · simp [h'] at hiun h1; rw [hiun] at h1; cases h1
     · simp [Array.getElem?_eq_none h'] at h1
    have h2 := wpOp_put hoj (hfree j oj hoj hji hjun hnot) (fun cs b => hsel i oi cs b hi) (fun cs b => hsel j oj cs b hoj) hQ hy h1
    have hfree' : ∀ k ok, ops[k]? = some ok → k ≠ i → (listed.setIfInBounds j true).getD k true = false →
     (∀ e ∈ ok.after, Region.binds md e = true → e.on ≠ i) → oi.apart ops ok = true := fun k ok hk hki hun hno => by
     refine hfree k ok hk hki ?_ hno
     by_cases hjk : j = k
     · subst hjk; exact hjun
     · rw [getD_set_ne true hjk] at hun; exact hun
    refine wpOp_mono (fun a' w' h3 => ⟨h3.2.1, ih (listed.setIfInBounds j true) a' w' hfree' (ready_mono hr (Ne.symm hji)) h3.1 ?_⟩) h2
    rw [Array.setIfInBounds_comm _ _ hji]
    exact h3.2.2
end
section
variable {P : Program} {ops : Array Oper} {Q : Exit → Act → World → Prop} {md : Region.Mode} {S : World → Prop} {ds : List Nat}
inductive Ord where
 | nil
 | step (k c : Nat) (o : Ord)
 | or (k c : Nat) (o r : Ord)
def Ord.len : Ord → Nat
 | .nil => 0
 | .step _ _ o => o.len + 1
 | .or _ _ o _ => o.len + 1
def Ord.keys : Ord → List Nat
 | .nil => []
 | .step k _ _ => [k]
 | .or k _ _ r => k :: r.keys
def Ord.of : List (Nat × Nat) → Ord
 | [] => .nil
 | (k, c) :: l => .step k c (Ord.of l)
def effB (ds : List Nat) (k c : Nat) : Bool := c == 2 || (c == 3 && ds.contains k)
def mixB (md : Region.Mode) (ops : Array Oper) (ds : List Nat) : Bool → Ord → Array Bool → Bool
 | false, .nil, listed => (Region.ready md ops listed).isEmpty
 | true, .nil, _ => false
 | false, .step k 0 l, listed => (Region.ready md ops listed).contains k && Region.free md ops listed k && mixB md ops ds false l (listed.setIfInBounds k true)
 | false, .step k 1 l, listed => (Region.ready md ops listed).contains k && Region.free md ops listed k && Region.closedB md ops listed && Region.lastB md ops listed ds k && mixB md ops ds false l (listed.setIfInBounds k true)
 | false, .step k c l, listed => (Region.ready md ops listed == [k]) && effB ds k c && mixB md ops ds false l (listed.setIfInBounds k true)
 | true, .step k c l, listed => effB ds k c && mixB md ops ds false l (listed.setIfInBounds k true)
 | alt, .or k c l r, listed => (alt || Region.ready md ops listed == k :: r.keys) && Nat.beq (l.len + 1) r.len && effB ds k c && mixB md ops ds false l (listed.setIfInBounds k true) && mixB md ops ds true r listed
def QN (K : Act → World → Prop) : Exit → Act → World → Prop
 | .normal, a, w => K a w
 | _, _, _ => False
def wpMix (P : Program) (ops : Array Oper) (Q : Exit → Act → World → Prop) (S : World → Prop) : Ord → Act → World → Prop
 | .nil, a, w => Q .normal a w
 | .step k 0 l, a, w => ∃ o v, ops[k]? = some o ∧ Yields P ops o v a ∧ wpMix P ops Q S l (a.put o.dst v) w
 | .step k 1 l, a, w => S w ∧ ∃ o v, ops[k]? = some o ∧ YieldsIf P ops S o v a ∧ wpMix P ops Q S l (a.put o.dst v) w
 | .step k 2 l, a, w => ∃ o, ops[k]? = some o ∧ wpList P ops (QN fun a' w' => S w' ∧ wpMix P ops Q S l a' w') [o] a w
 | .step k _ l, a, w => ∃ o, ops[k]? = some o ∧ wpList P ops (QN fun a' w' => wpMix P ops Q S l a' w') [o] a w
 | .or k c l r, a, w => (∃ o, ops[k]? = some o ∧ wpList P ops (QN fun a' w' => (c = 2 → S w') ∧ wpMix P ops Q S l a' w') [o] a w) ∧ wpMix P ops Q S r a w
theorem wpOp_list {i : Nat} {o : Oper} {K : Act → World → Prop} {a : Act} {w : World} (ho : ops[i]? = some o) (h : wpList P ops (QN K) [o] a w) : wpOp P ops Q i K a w := by
 unfold wpOp
 simp only [ho]
 unfold wpList at h
 split at h
 · rename_i hw
   rw [if_pos hw]
   rcases h with h | ⟨_, a', w', h⟩
   · refine .inl ?_
     unfold Oper.wp at *
     generalize (execOp a.eval o).run P w = r at *
     cases r with
     | ok n w' =>
      cases n <;> simp only [Oper.upon] at h ⊢ <;> try exact h
      refine Calls.mono h fun e w'' he => ?_
      cases e with
      | returned u => exact he
      | panicked c => exact (he : False).elim
      | outgrown => obtain ⟨_, _, he⟩ := he; exact (he : False).elim
     | halt x w' =>
      cases x <;> simp only [Oper.upon] at h ⊢ <;> exact (h : False).elim
   · exact (h : False).elim
 · rename_i hw
   rw [if_neg hw]
   exact h
theorem effB_dec {k c : Nat} (h : effB ds k c = true) : c = 2 ∨ (c = 3 ∧ k ∈ ds) := by
 simp only [effB, Bool.or_eq_true, Bool.and_eq_true, beq_iff_eq] at h
 rcases h with h | ⟨h1, h2⟩
 · exact .inl h
 · exact .inr ⟨h1, by simpa using h2⟩
mutual
theorem mix_last (hs : Region.noSelect ops = true) : ∀ (ord : Ord) (listed : Array Bool) (a : Act) (w : World), mixB md ops ds false ord listed = true → wpMix P ops (NoPanic Q) S ord a w → wpAnyLast P md ops (NoPanic Q) S ds ord.len listed a w
 | .nil, listed, a, w, hB, h => by
  simp only [mixB, List.isEmpty_iff] at hB
  exact ⟨hB, h⟩
 | .step k 0 l, listed, a, w, hB, h => by
  simp only [mixB, Bool.and_eq_true] at hB
  obtain ⟨⟨h1, h2⟩, h3⟩ := hB
  obtain ⟨o, v, ho, hy, hr⟩ := h
  exact wpAnyLast_any ho (Region.noSelect_spec hs) (fun c a w h => h) l.len listed a w (Region.free_spec ho h2) (by simpa using h1) hy (mix_last hs l _ _ _ h3 hr)
 | .step k 1 l, listed, a, w, hB, h => by
  simp only [mixB, Bool.and_eq_true] at hB
  obtain ⟨⟨⟨⟨h1, h2⟩, h4⟩, h5⟩, h3⟩ := hB
  obtain ⟨hS, o, v, ho, hy, hr⟩ := h
  exact wpAnyLast_first ho (Region.noSelect_spec hs) (fun c a w h => h) ops.size l.len listed a w (Region.free_spec ho h2) (Region.closedB_spec h4)
   (fun d hm hun => by have := List.all_eq_true.1 h5 d hm; rw [hun] at this; simpa using this) (by simpa using h1) hy hS (mix_last hs l _ _ _ h3 hr)
 | .step k (c + 2) l, listed, a, w, hB, h => by
  simp only [mixB, Bool.and_eq_true, beq_iff_eq] at hB
  obtain ⟨⟨h1, h2⟩, h3⟩ := hB
  have key := mix_eff hs (.step k (c + 2) l) listed a w (by simp only [mixB, Bool.and_eq_true]; exact ⟨h2, h3⟩) h k (by simp [Ord.keys])
  refine ⟨fun h0 => (by rw [h0] at h1; cases h1), fun j hj => ?_⟩
  rw [h1] at hj
  have : j = k := by simpa using hj
  rw [this]
  exact key
 | .or k c l r, listed, a, w, hB, h => by
  simp only [mixB, Bool.and_eq_true, beq_iff_eq, Bool.false_or] at hB
  obtain ⟨⟨⟨⟨h1, h2⟩, h3⟩, h4⟩, h5⟩ := hB
  have key := mix_eff hs (.or k c l r) listed a w (by simp only [mixB, Bool.and_eq_true, Bool.true_or]; exact ⟨⟨⟨⟨trivial, h2⟩, h3⟩, h4⟩, h5⟩) h
  refine ⟨fun h0 => (by rw [h0] at h1; cases h1), fun j hj => ?_⟩
  rw [h1] at hj
  exact key j hj
 termination_by ord => (SizeOf.sizeOf ord, 1)
theorem mix_eff (hs : Region.noSelect ops = true) : ∀ (ord : Ord) (listed : Array Bool) (a : Act) (w : World), mixB md ops ds true ord listed = true → wpMix P ops (NoPanic Q) S ord a w → ∀ j, j ∈ ord.keys →
 wpOp P ops (NoPanic Q) j (fun a' w' => (j ∉ ds → S w → S w') ∧ wpAnyLast P md ops (NoPanic Q) S ds (ord.len - 1) (listed.setIfInBounds j true) a' w') a w
 | .nil, _, _, _, hB, _, _, _ => by simp [mixB] at hB
 | .step k 0 l, listed, a, w, hB, h, j, hj => by simp [mixB, effB] at hB
 | .step k 1 l, listed, a, w, hB, h, j, hj => by simp [mixB, effB] at hB
 | .step k 2 l, listed, a, w, hB, h, j, hj => by
  simp only [mixB, Bool.and_eq_true] at hB
  obtain rfl : j = k := by simpa [Ord.keys] using hj
  obtain ⟨o, ho, hr⟩ := h
  exact wpOp_mono (fun a' w' h => ⟨fun _ _ => h.1, mix_last hs l _ _ _ hB.2 h.2⟩) (wpOp_list ho hr)
 | .step k (c + 3) l, listed, a, w, hB, h, j, hj => by
  simp only [mixB, Bool.and_eq_true] at hB
  obtain rfl : j = k := by simpa [Ord.keys] using hj
  obtain ⟨o, ho, hr⟩ := h
  have hd := (effB_dec hB.1).resolve_left (by omega)
  exact wpOp_mono (fun a' w' h => ⟨fun hn => absurd hd.2 hn, mix_last hs l _ _ _ hB.2 h⟩) (wpOp_list ho hr)
 | .or k c l r, listed, a, w, hB, h, j, hj => by
  simp only [mixB, Bool.and_eq_true] at hB
  obtain ⟨⟨⟨⟨_, h2⟩, h3⟩, h4⟩, h5⟩ := hB
  rcases List.mem_cons.1 (show j ∈ k :: r.keys from hj) with rfl | hj
  · obtain ⟨⟨o, ho, hr⟩, _⟩ := h
    refine wpOp_mono (fun a' w' h => ⟨fun hn _ => h.1 ((effB_dec h3).resolve_right fun hd => hn hd.2), mix_last hs l _ _ _ h4 h.2⟩) (wpOp_list ho hr)
  · have := mix_eff hs r listed a w h5 h.2 j hj
    rw [← Nat.eq_of_beq_eq_true h2] at this
    exact this
 termination_by ord => (SizeOf.sizeOf ord, 0)
end
end
def Sw (G : GH) (Ls : List Rs) (w : World) : Prop := Inv w G (feet Ls) G Ls w
section
variable {T : Tab} {P : Program} {n : Nat} {ops : Array Oper} {Q : Exit → Act → World → Prop} {w w0 : World} {G0 G G' : GH} {D0 : List Nat} {L L1 Ls : List Rs} {e : EL} {a : Act} {ord : Ord}
variable {d ty t yt k : Nat} {ps : String} {af : Array Edge} {g : Option (Nat × Bool)}
theorem Inv.sw (h : Inv w0 G0 D0 G' L w) (is : List Nat) (hn : is.Nodup) (hp : pickL is L = some Ls) (hg : G.le G') : Sw G Ls w := by
 have h1 := h.pick is hn hp
 have hGG : ∀ b, G' b = none → G b = none := fun b hb => by
  cases hG : G b with
  | none => rfl
  | some o => rw [hg b o hG] at hb; cases hb
 exact ⟨rfl, rfl, rfl, Nat.le_refl _, fun _ _ _ => rfl, GH.le.refl _, fun _ _ _ => rfl, h1.inG.mono hg, h1.ok,
  fun r hr b hb => ⟨hGG b (h1.sep r hr b hb).1, .inr (mem_feet.2 ⟨r, hr, hb⟩)⟩, h1.dis⟩
theorem RT.sw {o : Op} {v : Value} (h : ∀ w1, RT P n e (Inv w1 G (feet Ls) G Ls) o v) : RT P n e (Sw G Ls) o v := fun a w dst ty ps af g hE hS => h w a w dst ty ps af g hE hS
theorem c_mix {id : Nat} (ds : List Nat) (ord : Ord) (Ls : List Rs) (hm : P.follows .mixedOrders = true) (hB : (Region.noSelect ops && Nat.beq ord.len ops.size && mixB .any ops ds false ord (Array.replicate ops.size false)) = true) (hI : Inv w0 G0 D0 G L w)
 (h : ∀ w, Inv w0 G0 D0 G L w → wpMix P ops (NoPanic Q) (Sw G Ls) ord a w) : (Code.region id ops true).wp P Q a w := by
 simp only [Bool.and_eq_true] at hB
 obtain ⟨⟨h1, h2⟩, h3⟩ := hB
 refine wp_region_noPanic (wp_region_any hm (wpAny_of_last (S := Sw G Ls) (ds := ds) _ _ _ _ ?_))
 have := mix_last h1 ord _ a _ h3 (h _ hI.drew)
 rwa [Nat.eq_of_beq_eq_true h2] at this
def runD (T : Tab) (n : Nat) (ops : Array Oper) : Nat → EL → Ord → Option (EL × Ord)
 | 0, e, l => some (e, l)
 | m + 1, e, .step k 0 l => match ops[k]? with
  | some o => match gd ops e o.guard with
   | some true => match pev T e o.op, o.dst with
    | some v, some d => bif Nat.blt d n then runD T n ops m ((d, v) :: e) l else none
    | _, _ => none
   | some false => match o.dst with
    | some d => bif Nat.blt d n then runD T n ops m ((d, undef) :: e) l else none
    | none => none
   | none => none
  | none => none
 | _, _, _ => none
theorem mix_run (hT : T.Ok P) : ∀ (m : Nat) {e e' : EL} {l l' : Ord} {a : Act} {S : World → Prop}, Env a n e → runD T n ops m e l = some (e', l') → (∀ a', Env a' n e' → wpMix P ops Q S l' a' w) → wpMix P ops Q S l a w
 | 0, e, e', l, l', a, S, hE, h, k => by simp only [runD, Option.some.injEq, Prod.mk.injEq] at h; obtain ⟨rfl, rfl⟩ := h; exact k a hE
 | m + 1, e, e', l, l', a, S, hE, h, k => by
  match l, h with
  | .nil, h => simp [runD] at h
  | .or _ _ _ _, h => simp [runD] at h
  | .step j (c + 1) l, h => simp [runD] at h
  | .step j 0 l, h =>
   simp only [runD] at h
   split at h
   · rename_i o ho
     split at h
     · rename_i hg
       split at h
       · rename_i v d hv hd
         cases hb : Nat.blt d n with
         | false => rw [hb] at h; cases h
         | true =>
          rw [hb] at h
          refine ⟨o, v, ho, .inl ⟨gd_wanted hE hg, fun w => pev_run hT hE hv w⟩, ?_⟩
          rw [hd]
          exact mix_run hT m (hE.put hb v) h k
       · cases h
     · rename_i hg
       split at h
       · rename_i d hd
         cases hb : Nat.blt d n with
         | false => rw [hb] at h; cases h
         | true =>
          rw [hb] at h
          refine ⟨o, undef, ho, .inr ⟨gd_wanted hE hg, rfl⟩, ?_⟩
          rw [hd]
          exact mix_run hT m (hE.put hb undef) h k
       · cases h
     · cases h
   · cases h
theorem d_rt {o : Op} {v : Value} {S : World → Prop} (hE : Env a n e) (ho : ops[k]? = some ⟨some d, o, ty, ps, af, g⟩) (hg : gd ops e g = some true) (hr : RT P n e (fun _ => True) o v) (hd : Nat.blt d n = true)
 (h : ∀ a', Env a' n ((d, v) :: e) → wpMix P ops Q S ord a' w) : wpMix P ops Q S (.step k 0 ord) a w :=
 ⟨_, v, ho, .inl ⟨gd_wanted hE hg, fun w => hr a w _ _ _ _ _ hE trivial⟩, h _ (hE.put hd _)⟩
theorem d_ld {o : Op} {v : Value} {S : World → Prop} (hS : S w) (hE : Env a n e) (ho : ops[k]? = some ⟨some d, o, ty, ps, af, g⟩) (hg : gd ops e g = some true) (hr : RT P n e S o v) (hd : Nat.blt d n = true)
 (h : ∀ a', Env a' n ((d, v) :: e) → wpMix P ops Q S ord a' w) : wpMix P ops Q S (.step k 1 ord) a w :=
 ⟨hS, _, v, ho, .inl ⟨gd_wanted hE hg, fun w hS => hr a w _ _ _ _ _ hE hS⟩, h _ (hE.put hd _)⟩
theorem d_eff {S : World → Prop} {o : Oper} (ho : ops[k]? = some o) (h : wpList P ops (QN fun a' w' => S w' ∧ wpMix P ops Q S ord a' w') [o] a w) : wpMix P ops Q S (.step k 2 ord) a w := ⟨o, ho, h⟩
theorem d_last {S : World → Prop} {o : Oper} (ho : ops[k]? = some o) (h : wpList P ops (QN fun a' w' => wpMix P ops Q S ord a' w') [o] a w) : wpMix P ops Q S (.step k 3 ord) a w := ⟨o, ho, h⟩
theorem d_nextl {S : World → Prop} (h : wpMix P ops Q S ord a w) : wpList P ops (QN fun a' w' => wpMix P ops Q S ord a' w') [] a w := h
theorem d_end {S : World → Prop} (h : Q .normal a w) : wpMix P ops (NoPanic Q) S .nil a w := h
end
end Go.Proofs.YtknhbphhdfknaaaGreatDoor
