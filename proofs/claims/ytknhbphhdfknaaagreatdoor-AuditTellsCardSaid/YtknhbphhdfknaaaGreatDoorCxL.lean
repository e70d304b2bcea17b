import Derived.Test.YtknhbphhdfknaaaGreatDoorCxK
import Derived.ScopeJumps
set_option linter.unusedVariables false
set_option linter.unusedSimpArgs false
namespace Go.Proofs.YtknhbphhdfknaaaGreatDoor
open Go.RowKit
theorem arCells_len (k : IntKind) (n : Nat) (xs : List Int) : (arCells k n xs).length = n := by simp [arCells]
theorem arCells_get (k : IntKind) (n : Nat) (xs : List Int) (i : Nat) (h : i < n) : (arCells k n xs)[i]? = some (.int k (xs.getD i 0)) := by simp [arCells, h]
theorem setA_get (xs : List Int) (i : Nat) (v : Int) (j : Nat) : (setA xs i v).getD j 0 = if i = j then v else xs.getD j 0 := by
 unfold setA
 split
 · rename_i h
   simp only [List.getD_eq_getElem?_getD, List.getElem?_set]
   split
   · subst_vars; simp [h]
   · rfl
 · rename_i h
   simp only [List.getD_eq_getElem?_getD]
   rcases Nat.lt_trichotomy j i with h1 | h1 | h1
   · rw [if_neg (by omega), List.getElem?_append_left (by simp; omega)]
     by_cases h2 : j < xs.length
     · rw [List.getElem?_append_left h2]
     · rw [List.getElem?_append_right (by omega), List.getElem?_eq_none (l := xs) (by omega)]
       simp [List.getElem?_replicate]
       split <;> rfl
   · subst h1
     rw [if_pos rfl, List.getElem?_append_right (by simp; omega)]
     simp [show j - (xs.length + (j - xs.length)) = 0 by omega]
   · rw [if_neg (by omega), List.getElem?_eq_none (by simp; omega), List.getElem?_eq_none (by omega)]
theorem arCells_set (k : IntKind) (n : Nat) (xs : List Int) (i : Nat) (h : i < n) (v : Int) : (arCells k n xs).set i (.int k v) = arCells k n (setA xs i v) := by
 apply List.ext_getElem?
 intro j
 rw [List.getElem?_set]
 simp only [arCells_len]
 by_cases hj : j < n
 · rw [arCells_get _ _ _ _ hj, arCells_get _ _ _ _ hj, setA_get]
   split
   · subst_vars; simp [h]
   · rfl
 · rw [List.getElem?_eq_none (by simp [arCells_len]; omega), List.getElem?_eq_none (by simp [arCells_len]; omega)]
   split
   · omega
   · rfl
theorem ar_ld {pre post : List Value} {k : IntKind} {n : Nat} {xs : List Int} {cs : List Value} {o i : Nat} (hc : cs = pre ++ (arCells k n xs ++ post)) (ho : pre.length = o) (h : i < n) : ldv false cs (o + i) 1 = some (.int k (xs.getD i 0)) := by
 subst hc; subst ho
 show (pre ++ (arCells k n xs ++ post))[pre.length + i]? = _
 rw [List.getElem?_append_right (by omega), Nat.add_sub_cancel_left, List.getElem?_append_left (by rw [arCells_len]; exact h), arCells_get _ _ _ _ h]
theorem lay_app {v : Value} : ∀ (l : List Value) (o : Nat), o < l.length → lay l o [v] = some (l.set o v)
 | [], o, h => by simp at h
 | x :: l, 0, _ => by cases l <;> simp [lay]
 | x :: l, o + 1, h => by
  simp only [lay, lay_app l o (by simpa using h), List.set_cons_succ]
theorem ar_lay {pre post : List Value} {k : IntKind} {n : Nat} {xs : List Int} {cs cs' : List Value} {o i : Nat} {v : Int} (hc : cs = pre ++ (arCells k n xs ++ post)) (ho : pre.length = o) (h : i < n) (hc' : cs' = pre ++ (arCells k n (setA xs i v) ++ post)) : lay cs (o + i) [.int k v] = some cs' := by
 subst hc; subst ho; subst hc'
 rw [lay_app _ _ (by simp [arCells_len]; omega), List.set_append_right _ _ (by omega), Nat.add_sub_cancel_left, List.set_append_left _ _ (by rw [arCells_len]; exact h), arCells_set _ _ _ _ h]
theorem ar_ld2 {pre post : List Value} {k : IntKind} {n : Nat} {xs : List Int} {cs : List Value} {o i j : Nat} (hc : cs = pre ++ (arCells k n xs ++ post)) (ho : pre.length = o) (h : i + j < n) : ldv false cs (o + i + j) 1 = some (.int k (xs.getD (i + j) 0)) := by
 rw [Nat.add_assoc]; exact ar_ld hc ho h
theorem ar_lay2 {pre post : List Value} {k : IntKind} {n : Nat} {xs : List Int} {cs cs' : List Value} {o i j : Nat} {v : Int} (hc : cs = pre ++ (arCells k n xs ++ post)) (ho : pre.length = o) (h : i + j < n) (hc' : cs' = pre ++ (arCells k n (setA xs (i + j) v) ++ post)) : lay cs (o + i + j) [.int k v] = some cs' := by
 rw [Nat.add_assoc]; exact ar_lay hc ho h hc'
theorem inB_lt {n : Nat} {i : Int} {u : Unit} (h : inB n i = some u) : 0 ≤ i ∧ i.toNat < n ∧ i < (n : Int) := by
 unfold inB at h
 split at h
 · omega
 · cases h
theorem ar_ij {n m : Nat} {i j : Int} {u v : Unit} (h : inB n i = some u) (h' : inB m j = some v) : i.toNat * m + j.toNat * 1 < n * m := by
 have h1 := (inB_lt h).2.1; have h2 := (inB_lt h').2.1
 have : (i.toNat + 1) * m ≤ n * m := Nat.mul_le_mul_right m h1
 rw [Nat.succ_mul] at this
 omega
section
variable {T : Tab} {P : Program} {n : Nat} {ops : Array Oper} {Q : Exit → Act → World → Prop} {w w0 : World} {G0 G : GH} {D0 : List Nat} {L L1 : List Rs} {e : EL} {a : Act} {rest : List Oper} {C : World → Prop}
variable {d ty t yt : Nat} {ps : String} {af : Array Edge} {g : Option (Nat × Bool)} {x y : Operand}
theorem f_aidx {te sz m b o : Nat} {agg : Bool} {kk : IntKind} {i : Int} {u : Unit} (hT : T.Ok P) (hu : P.underlying t = some (.array m te)) (ht : lst T.ty te = some (sz, agg)) (hm : Nat.ble 2 m = true) (hx : ev e x = some (.pointer (some ⟨b, o, none⟩))) (hi : ev e y = some (.int kk i)) (hb : inB m i = some u) :
 RT P n e C (.indexAddr t x y) (.pointer (some ⟨b, o + i.toNat * sz, none⟩)) := by
 intro a w dst ty ps af g hE hC
 have h1 := inB_lt hb
 obtain ⟨hs, _⟩ := hT.ty _ (lst_mem ht)
 dsimp only at hs
 have hm' : ¬ m ≤ 1 := by have := Nat.le_of_ble_eq_true hm; omega
 simp [execOp, hE.eval hx, hE.eval hi, Instr.indexAt, asIntOf, run_underlying hu, Instr.sureAddr, run_ty hs, h1.1, h1.2.2, Addr.add_lit, hm']
theorem s_callM {f : Nat} {args : List Operand} {ats : Array TypeId} {vs : List Value} (Lp Lr : List Rs) {S : GH → List Rs → Value → Prop} (hcl : Callable P f) (hI : Inv w0 G0 D0 G (Lp ++ Lr) w) (hE : Env a n e) (hg : gd ops e g = some true) (hv : evs e args = some vs)
 (hc : Inv w G (feet Lp) G Lp w → Calls P f ⟨vs⟩ w (Ret w G (feet Lp) S)) (hd : Nat.blt d n = true)
 (k : ∀ a' w' v G' L', S G' L' v → G.le G' → Inv w0 G0 D0 G' (L' ++ Lr) w' → Env a' n ((d, v) :: e) → wpList P ops Q rest a' w') :
 wpList P ops Q (⟨some d, .call ⟨.value (.func f), ⟨args⟩, ats⟩, ty, ps, af, g⟩ :: rest) a w :=
 s_call (Lp := Lp) (Lr := Lr) hcl hI hE hg hv (hc hI.pass) hd k
end
section
variable {P : Program} {Q K : Exit → Act → World → Prop} {K1 : Act → World → Prop} {a : Act} {w : World} {c A R x y : Code} {l i : Nat}
def OkS (P : Program) (c rest : Code) (Q : Exit → Act → World → Prop) (a : Act) (w : World) : Prop :=
 ∀ b k cs, ∃ e a' w', Q e a' w' ∧ Arrives P (lone (b.at a (.code rest :: .inScope c :: k)) cs w) b k cs e a' w'
theorem c_scope {rest : Code} (l : Nat) (hf : findLabel c l = some rest) (h : c.wp P (Exit.jump l (OkS P c rest Q) Q) a w) : (Code.scope c).wp P Q a w := by
 intro b k cs
 have hg : gotoIn l (.inScope c :: k) = some (.code rest :: .inScope c :: k) := by simp [gotoIn, hf]
 obtain ⟨e, a₁, w₁, hq, harr⟩ := h b (.inScope c :: k) cs
 cases e with
 | normal => exact ⟨.normal, a₁, w₁, hq, .head step_scope (Steps.trans harr (.one step_inScope))⟩
 | exit id => exact ⟨.exit id, a₁, w₁, hq, fun k' hk => .head step_scope (harr k' (by simp [exitTo, hk]))⟩
 | goto l' =>
  obtain ⟨rfl, hJ'⟩ := hq
  obtain ⟨e₂, a₂, w₂, hq₂, harr₂⟩ := hJ' b k cs
  exact ⟨e₂, a₂, w₂, hq₂, .of_steps (.head step_scope (harr _ hg)) harr₂⟩
 | ret => exact ⟨_, a₁, w₁, hq, .of_steps (.one step_scope) harr⟩
 | panic ch => exact ⟨_, a₁, w₁, hq, .of_steps (.one step_scope) harr⟩
 | outgrown => exact ⟨_, a₁, w₁, hq, .of_steps (.one step_scope) harr⟩
theorem okS_of (l : Nat) (hf : findLabel c l = some (.seq .skip R)) (I : Nat → Act → World → Prop) (pass : ∀ n a w, I n a w → R.wp P (Exit.jump l (fun a' w' => ∃ n', n' < n ∧ I n' a' w') Q) a w) : ∀ n a w, I n a w → OkS P c (.seq .skip R) Q a w := by
 intro n
 induction n using Nat.strongRecOn with
 | _ n ih =>
  intro a w hI b k cs
  have hg : gotoIn l (.inScope c :: k) = some (.code (.seq .skip R) :: .inScope c :: k) := by simp [gotoIn, hf]
  have hp : (Code.seq .skip R).wp P (Exit.jump l (fun a' w' => ∃ n', n' < n ∧ I n' a' w') Q) a w := wp_seq (wp_skip (pass n a w hI))
  obtain ⟨e, a₁, w₁, hq, harr⟩ := hp b (.inScope c :: k) cs
  cases e with
  | normal => exact ⟨.normal, a₁, w₁, hq, Steps.trans harr (.one step_inScope)⟩
  | exit id => exact ⟨.exit id, a₁, w₁, hq, fun k' hk => harr k' (by simp [exitTo, hk])⟩
  | goto l' =>
   obtain ⟨rfl, n', hlt, hI'⟩ := hq
   obtain ⟨e₂, a₂, w₂, hq₂, harr₂⟩ := ih n' hlt a₁ w₁ hI' b k cs
   exact ⟨e₂, a₂, w₂, hq₂, .of_steps (harr _ hg) harr₂⟩
  | ret => exact ⟨_, a₁, w₁, hq, harr⟩
  | panic ch => exact ⟨_, a₁, w₁, hq, harr⟩
  | outgrown => exact ⟨_, a₁, w₁, hq, harr⟩
theorem c_label (I : Nat → Act → World → Prop) (n : Nat) (hf : findLabel c l = some (.seq .skip R)) (hI : I n a w) (pass : ∀ n a w, I n a w → R.wp P (Exit.jump l (fun a' w' => ∃ n', n' < n ∧ I n' a' w') Q) a w) :
 (Code.seq (.label l) R).wp P (Exit.jump l (OkS P c (.seq .skip R) Q) Q) a w := by
 refine wp_seq (wp_label ?_)
 refine wp_mono (pass n a w hI) fun e a' w' hq => ?_
 cases e with
 | goto l' => obtain ⟨rfl, n', hlt, hI'⟩ := hq; exact ⟨rfl, okS_of _ hf I pass n' a' w' hI'⟩
 | _ => exact hq
theorem c_goto (h : Q (.goto l) a w) : (Code.goto l).wp P Q a w := wp_goto h
theorem xTg (h : Q (.goto l) a w) : Exit.then K1 Q (.goto l) a w := h
theorem xBg (h : Q (.goto l) a w) : Exit.inBlock i Q (.goto l) a w := h
theorem xSr {J : Act → World → Prop} (h : Q .ret a w) : Exit.jump l J Q .ret a w := h
theorem xSg {J : Act → World → Prop} (h : J a w) : Exit.jump l J Q (.goto l) a w := ⟨rfl, h⟩
end
end Go.Proofs.YtknhbphhdfknaaaGreatDoor
