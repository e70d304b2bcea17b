import Derived.Test.YtknhbphhdfknaaaGreatDoorCxC
set_option linter.unusedVariables false
set_option linter.unusedSimpArgs false
namespace Go.Proofs.YtknhbphhdfknaaaGreatDoor
open Go.RowKit
def vcells : Value → Option (List Value)
 | .agg ⟨l⟩ => some l
 | v => some [v]
def one1 : Value → Bool
 | .agg _ => false
 | .tuple _ => false
 | _ => true
theorem one1_one {v : Value} (h : one1 v = true) : v.oneCell' = true := by cases v <;> simp_all [one1, Value.oneCell']
def seg : List Value → Nat → Nat → Option (List Value)
 | _, 0, 0 => some []
 | v :: l, 0, n + 1 => match seg l 0 n with
  | some r => some (v :: r)
  | none => none
 | _ :: l, o + 1, n => seg l o n
 | [], _ + 1, _ => none
 | [], 0, _ + 1 => none
theorem seg_eq : ∀ {l : List Value} {o n : Nat} {r : List Value}, seg l o n = some r → r.length = n ∧ ∀ j, j < n → l[o + j]? = r[j]?
 | l, 0, 0, r, h => by cases l <;> simp [seg] at h <;> subst h <;> simp
 | v :: l, 0, n + 1, r, h => by
  simp only [seg] at h
  split at h
  · rename_i r' hr
    cases h
    obtain ⟨h1, h2⟩ := seg_eq hr
    refine ⟨by simp [h1], fun j hj => ?_⟩
    cases j with
    | zero => simp
    | succ j => have := h2 j (by omega); simpa using this
  · cases h
 | v :: l, o + 1, n, r, h => by
  simp only [seg] at h
  obtain ⟨h1, h2⟩ := seg_eq h
  refine ⟨h1, fun j hj => ?_⟩
  have := h2 j hj
  rw [show o + 1 + j = (o + j) + 1 from by omega]
  simpa using this
 | [], o + 1, n, r, h => by simp [seg] at h
 | [], 0, n + 1, r, h => by simp [seg] at h
def lay : List Value → Nat → List Value → Option (List Value)
 | l, 0, [] => some l
 | _ :: l, 0, v :: vs => match lay l 0 vs with
  | some r => some (v :: r)
  | none => none
 | c :: l, o + 1, vs => match lay l o vs with
  | some r => some (c :: r)
  | none => none
 | [], _ + 1, _ => none
 | [], 0, _ :: _ => none
theorem lay_eq : ∀ {l : List Value} {o : Nat} {vs r : List Value}, lay l o vs = some r → r = l.take o ++ vs ++ l.drop (o + vs.length) ∧ o + vs.length ≤ l.length
 | l, 0, [], r, h => by cases l <;> simp [lay] at h <;> subst h <;> simp
 | c :: l, 0, v :: vs, r, h => by
  simp only [lay] at h
  split at h
  · rename_i r' hr
    cases h
    obtain ⟨h1, h2⟩ := lay_eq hr
    subst h1
    simp at h2 ⊢; omega
  · cases h
 | c :: l, o + 1, vs, r, h => by
  simp only [lay] at h
  split at h
  · rename_i r' hr
    cases h
    obtain ⟨h1, h2⟩ := lay_eq hr
    subst h1
    rw [show o + 1 + vs.length = (o + vs.length) + 1 from by omega]
    simp; omega
  · cases h
 | [], o + 1, vs, r, h => by simp [lay] at h
 | [], 0, v :: vs, r, h => by simp [lay] at h
def setR : List Rs → Nat → Rs → Option (List Rs)
 | [], _, _ => none
 | _ :: l, 0, r => some (r :: l)
 | x :: l, i + 1, r => match setR l i r with
  | some l' => some (x :: l')
  | none => none
theorem setR_eq : ∀ {l : List Rs} {i : Nat} {r : Rs} {l' : List Rs}, setR l i r = some l' → l' = l.set i r
 | [], _, _, _, h => by simp [setR] at h
 | x :: l, 0, r, l', h => by simp [setR] at h; simp [h]
 | x :: l, i + 1, r, l', h => by
  simp only [setR] at h
  split at h
  · rename_i l'' hl
    cases h
    rw [setR_eq hl]; rfl
  · cases h
def evs (e : EL) : List Operand → Option (List Value)
 | [] => some []
 | x :: l => match ev e x, evs e l with
  | some v, some vs => some (v :: vs)
  | _, _ => none
theorem Env.evals {a : Act} {n : Nat} {e : EL} (h : Env a n e) : ∀ {l : List Operand} {vs : List Value}, evs e l = some vs → l.map a.eval = vs
 | [], vs, hv => by simp [evs] at hv; simp [← hv]
 | x :: l, vs, hv => by
  simp only [evs] at hv
  split at hv
  · rename_i v vs' h1 h2
    cases hv
    simp [h.eval h1, h.evals h2]
  · cases hv
def ldv (agg : Bool) (cs : List Value) (o n : Nat) : Option Value :=
 bif agg then (match seg cs o n with | some r => some (.agg ⟨r⟩) | none => none) else cs[o]?
def Ret (w : World) (G : GH) (D0 : List Nat) (S : GH → List Rs → Value → Prop) (e : Ending) (w' : World) : Prop :=
 ∃ v G' L', e = .returned v ∧ Inv w G D0 G' L' w' ∧ S G' L' v
def feet : List Rs → List Nat
 | [] => []
 | r :: l => r.foot ++ feet l
theorem mem_feet {b : Nat} : ∀ {l : List Rs}, b ∈ feet l ↔ ∃ r, r ∈ l ∧ b ∈ r.foot
 | [] => by simp [feet]
 | r :: l => by simp [feet, mem_feet]
section
variable {w0 w w' : World} {G0 G G' : GH} {D0 : List Nat} {L L' Lp Lr : List Rs}
theorem Inv.pass (h : Inv w0 G0 D0 G (Lp ++ Lr) w) : Inv w G (feet Lp) G Lp w :=
 ⟨rfl, rfl, rfl, Nat.le_refl _, fun _ _ _ => rfl, GH.le.refl _, fun _ _ _ => rfl, h.inG, fun r hr => h.ok r (List.mem_append_left _ hr),
  fun r hr b hb => ⟨(h.sep r (List.mem_append_left _ hr) b hb).1, .inr (mem_feet.2 ⟨r, hr, hb⟩)⟩, h.dis.sublist (List.sublist_append_left _ _)⟩
theorem Inv.pass0 (h : Inv w0 G0 D0 G L w) : Inv w G [] G [] w := Inv.start h.inG
theorem Inv.back (h : Inv w0 G0 D0 G (Lp ++ Lr) w) (k : Inv w G (feet Lp) G' L' w') : Inv w0 G0 D0 G' (L' ++ Lr) w' := by
 have hd := List.pairwise_append.1 h.dis
 have far : ∀ r, r ∈ Lr → ∀ b, b ∈ r.foot → b ∉ feet Lp := fun r hr b hb hm => by
  obtain ⟨s, hs, hf⟩ := mem_feet.1 hm
  exact hd.2.2 s hs r hr b hf hb
 have hlt : ∀ r, r ∈ Lr → ∀ b, b ∈ r.foot → b < w.heap.size := fun r hr b hb => h.lt (List.mem_append_right _ hr) hb
 have own : ∀ b, b ∈ feet Lp → w0.heap.size ≤ b ∨ b ∈ D0 := fun b hb => by
  obtain ⟨s, hs, hf⟩ := mem_feet.1 hb
  exact (h.sep s (List.mem_append_left _ hs) b hf).2
 refine ⟨k.os.trans h.os, k.tape.trans h.tape, k.output.trans h.output, Nat.le_trans h.size k.size, ?_, h.le.trans k.le, ?_, k.inG, ?_, ?_, ?_⟩
 · intro i hi hD
   have hi' := Nat.lt_of_lt_of_le hi h.size
   have : i ∉ feet Lp := fun hm => by rcases own i hm with h1 | h1; omega; exact hD h1
   exact (k.fr i hi' this).trans (h.fr i hi hD)
 · intro i hi hD
   have hi' := Nat.lt_of_lt_of_le hi h.size
   have : i ∉ feet Lp := fun hm => by rcases own i hm with h1 | h1; omega; exact hD h1
   exact (k.fresh i hi' this).trans (h.fresh i hi hD)
 · intro r hr
   rcases List.mem_append.1 hr with hr | hr
   · exact k.ok r hr
   · exact (h.ok r (List.mem_append_right _ hr)).kept fun b hb => k.fr b (hlt r hr b hb) (far r hr b hb)
 · intro r hr b hb
   rcases List.mem_append.1 hr with hr | hr
   · obtain ⟨h1, h2⟩ := k.sep r hr b hb
     refine ⟨h1, ?_⟩
     rcases h2 with h2 | h2
     · exact .inl (Nat.le_trans h.size h2)
     · exact own b h2
   · obtain ⟨h1, h2⟩ := h.sep r (List.mem_append_right _ hr) b hb
     exact ⟨(k.fresh b (hlt r hr b hb) (far r hr b hb)).trans h1, h2⟩
 · refine List.pairwise_append.2 ⟨k.dis, hd.2.1, fun r hr s hs b hb he => ?_⟩
   rcases (k.sep r hr b hb).2 with h1 | h1
   · have := hlt s hs b he; omega
   · exact far s hs b he h1
theorem Inv.back0 (h : Inv w0 G0 D0 G L w) (k : Inv w G [] G' L' w') : Inv w0 G0 D0 G' (L' ++ L) w' := Inv.back (Lp := []) (Lr := L) h k
end
def Callable (P : Program) (f : Nat) : Prop := ∃ fn, P.funcs[f]? = some fn ∧ fn.body.isSome = true ∧ (fn.name == "runtime.NumGoroutine") = false
theorem call_run {P : Program} {f : Nat} (h : Callable P f) (args : Array Value) (w : World) : (callFunc f args).run P w = .ok (.enter f args) w := by
 obtain ⟨fn, h1, h2, h3⟩ := h
 cases hb : fn.body with
 | none => rw [hb] at h2; cases h2
 | some c =>
  have h3' : ¬ fn.name = "runtime.NumGoroutine" := by simpa using h3
  simp [callFunc, h1, hb, h3']
section
variable {T : Tab} {P : Program} {n : Nat} {ops : Array Oper} {Q : Exit → Act → World → Prop} {w w0 : World} {G0 G : GH} {D0 : List Nat} {L L1 : List Rs} {e : EL} {a : Act} {rest : List Oper}
variable {d ty : Nat} {ps : String} {af : Array Edge} {g : Option (Nat × Bool)}
theorem s_box {t : Nat} {x : Operand} {v : Value} {cs : List Value} (hI : Inv w0 G0 D0 G L w) (hE : Env a n e) (hg : gd ops e g = some true) (hx : ev e x = some v) (hc : vcells v = some cs) (hd : Nat.blt d n = true)
 (k : ∀ a' w' b, Env a' n ((d, .pointer (some ⟨b, 0, none⟩)) :: e) → Inv w0 G0 D0 G (.blk b cs t :: L) w' → wpList P ops Q rest a' w') :
 wpList P ops Q (⟨some d, .box t x, ty, ps, af, g⟩ :: rest) a w := by
 have hv : v.cells = cs.toArray := by cases v <;> simp [vcells] at hc <;> subst hc <;> rfl
 refine wpList_do (gd_wanted hE hg) (wp_val (w' := w.alloc (.cells cs.toArray t)) (v := .pointer (some ⟨w.heap.size, 0, none⟩)) ?_ ?_)
 · simp [execOp, hE.eval hx, Instr.box, newVar, newRow, hv, newObj, Sem.run]
 · exact k _ _ _ (hE.put hd _) (hI.blk cs t)
theorem s_alloc {t : Nat} {z : Value} {cs : List Value} (hI : Inv w0 G0 D0 G L w) (hE : Env a n e) (hg : gd ops e g = some true) (hz : (P.info? t).bind (·.zero) = some z) (hc : vcells z = some cs) (hd : Nat.blt d n = true)
 (k : ∀ a' w' b, Env a' n ((d, .pointer (some ⟨b, 0, none⟩)) :: e) → Inv w0 G0 D0 G (.blk b cs t :: L) w' → wpList P ops Q rest a' w') :
 wpList P ops Q (⟨some d, .alloc t, ty, ps, af, g⟩ :: rest) a w := by
 have hv : z.cells = cs.toArray := by cases z <;> simp [vcells] at hc <;> subst hc <;> rfl
 cases hi : P.info? t with
 | none => simp [hi] at hz
 | some i =>
  simp [hi] at hz
  refine wpList_do (gd_wanted hE hg) (wp_val (w' := w.alloc (.cells cs.toArray t)) (v := .pointer (some ⟨w.heap.size, 0, none⟩)) ?_ ?_)
  · simp [execOp, Instr.alloc, zeroValue, typeInfo, hi, hz, newVar, newRow, hv, newObj, Sem.run]
  · exact k _ _ _ (hE.put hd _) (hI.blk cs t)
theorem load_run {t sz : Nat} {agg : Bool} {b o off : Nat} {cs : List Value} {v : Value} (hT : T.Ok P) (ht : lst T.ty t = some (sz, agg)) (hv : ldv agg cs off sz = some v) (hc : ∀ j u, cs[j]? = some u → w.cell? ⟨b, o + j, none⟩ = some u) :
 (Instr.loadAt t (.pointer (some ⟨b, o + off, none⟩))).run P w = .ok v w := by
 obtain ⟨h1, h2⟩ := hT.ty _ (lst_mem ht)
 simp only [Instr.loadAt, Instr.sureAddr, Sem.run_bind, Sem.run_pure, Result.andThen_ok, loadVar, run_agg h2]
 cases agg with
 | true =>
  simp only [ldv, cond_true] at hv
  split at hv
  · rename_i r hr
    cases hv
    obtain ⟨g1, g2⟩ := seg_eq hr
    simp only [if_true, Sem.run_bind, run_ty h1, Result.andThen_ok]
    have := run_loadCells_list (P := P) w ⟨b, o + off, none⟩ r (fun j u hu => by
     rw [Addr.add_lit]
     have hj : j < sz := by
      rcases Nat.lt_or_ge j r.length with h | h
      · omega
      · rw [List.getElem?_eq_none h] at hu; cases hu
     rw [Nat.add_assoc]
     exact hc (off + j) u ((g2 j hj).trans hu))
    rw [g1] at this
    rw [this]
    simp
  · cases hv
 | false =>
  simp only [ldv, cond_false] at hv
  have := hc off v hv
  simp only [Bool.false_eq_true, if_false]
  simp [load, Sem.run, this]
def RT (P : Program) (n : Nat) (e : EL) (C : World → Prop) (o : Op) (v : Value) : Prop :=
 ∀ (a : Act) (w : World) (dst : Option Tmp) (ty : Nat) (ps : String) (af : Array Edge) (g : Option (Nat × Bool)), Env a n e → C w → (execOp a.eval ⟨dst, o, ty, ps, af, g⟩).run P w = .ok (.value v) w
theorem s_rt {C : World → Prop} {o : Op} {v : Value} (hC : C w) (hE : Env a n e) (hg : gd ops e g = some true) (hr : RT P n e C o v) (hd : Nat.blt d n = true)
 (k : ∀ a', Env a' n ((d, v) :: e) → wpList P ops Q rest a' w) : wpList P ops Q (⟨some d, o, ty, ps, af, g⟩ :: rest) a w :=
 wpList_do (gd_wanted hE hg) (wp_val (hr a w _ _ _ _ _ hE hC) (k _ (hE.put hd _)))
theorem f_loadB {t sz off b : Nat} {agg : Bool} {x : Operand} {cs : List Value} {T' : Nat} {v : Value} (hT : T.Ok P) (i : Nat) (hx : ev e x = some (.pointer (some ⟨b, off, none⟩)))
 (hL : L[i]? = some (.blk b cs T')) (ht : lst T.ty t = some (sz, agg)) (hv : ldv agg cs off sz = some v) : RT P n e (Inv w0 G0 D0 G L) (.load t x) v := by
 intro a w dst ty ps af g hE hI
 have hb := hI.ok _ (List.mem_of_getElem? hL)
 have := load_run (P := P) (w := w) (b := b) (o := 0) (off := off) hT ht hv (fun j u hu => by simp [World.cell?, show w.heap[b]? = _ from hb, hu])
 rw [Nat.zero_add] at this
 simp [execOp, hE.eval hx, this]
theorem f_loadG {t sz b o o' : Nat} {agg : Bool} {x : Operand} {cs : List Value} {v : Value} (hT : T.Ok P) (hA : At G b o cs) (off : Nat) (hx : ev e x = some (.pointer (some ⟨b, o', none⟩)))
 (ho : o' = o + off) (ht : lst T.ty t = some (sz, agg)) (hv : ldv agg cs off sz = some v) : RT P n e (Inv w0 G0 D0 G L) (.load t x) v := by
 intro a w dst ty ps af g hE hI
 subst ho
 have := load_run (P := P) (w := w) (b := b) (o := o) (off := off) hT ht hv (fun j u hu => by
  have hj : j < cs.length := by
   rcases Nat.lt_or_ge j cs.length with h | h
   · exact h
   · rw [List.getElem?_eq_none h] at hu; cases hu
  exact hI.inG.cell ((hA j hj).trans hu))
 simp [execOp, hE.eval hx, this]
theorem s_storeB {t sz b o : Nat} {agg : Bool} {x y : Operand} {cs vs cs' : List Value} {T' : Nat} {v : Value} (hT : T.Ok P) (i : Nat) (hI : Inv w0 G0 D0 G L w) (hE : Env a n e) (hg : gd ops e g = some true) (hx : ev e x = some (.pointer (some ⟨b, o, none⟩))) (hy : ev e y = some v)
 (hL : L[i]? = some (.blk b cs T')) (ht : lst T.ty t = some (sz, agg)) (hv : vcells v = some vs) (h1 : vs.all one1 = true) (hsz : Nat.beq vs.length sz = true) (hcs : lay cs o vs = some cs') (hL1 : setR L i (.blk b cs' T') = some L1)
 (k : ∀ a' w', Env a' n e → Inv w0 G0 D0 G L1 w' → wpList P ops Q rest a' w') :
 wpList P ops Q (⟨none, .store t x y, ty, ps, af, g⟩ :: rest) a w := by
 have hb : w.heap[b]? = some (.cells cs.toArray T' (0, 0)) := hI.ok _ (List.mem_of_getElem? hL)
 obtain ⟨g1, g2⟩ := lay_eq hcs
 have hvc : v.cells = vs.toArray := by cases v <;> simp [vcells] at hv <;> subst hv <;> rfl
 obtain ⟨ht1, _⟩ := hT.ty _ (lst_mem ht)
 have hst := run_storeCells_at P b o T' vs 0 cs.toArray w hb (by simpa using g2) (fun u hu => one1_one (List.all_eq_true.1 h1 u hu))
 simp only [Nat.add_zero] at hst
 refine wpList_do (gd_wanted hE hg) (wp_skp (w' := w.setRow b cs'.toArray) ?_ (k _ _ (hE.put_none _) ?_))
 · have hsz' : vs.length = sz := Nat.eq_of_beq_eq_true hsz
   simp [execOp, hE.eval hx, hE.eval hy, Instr.storeAt, Instr.sureAddr, storeVar, hvc, run_ty ht1, hsz', hst, g1]
 · rw [setR_eq hL1]
   refine hI.turn i hL _ rfl rfl rfl (by simp) (fun k hk hne => setRow_other w b k _ (fun e => hne (by simp [Rs.foot, e]))) ?_ (.inl rfl)
   exact setRow_heap w b _ _ _ _ hb
theorem sl_at {sz c : Nat} {A : Option Addr} {α : Type} {f : α → D} {ys : List α} {i : Int} {y : α} (hs : Sl G A c sz (ys.map f)) (h0 : 0 ≤ i) (hy : ys[i.toNat]? = some y) :
 ∃ b o cs, (0 ≤ i ∧ i < (ys.length : Int) ∧ ∃ o', A = some ⟨b, o', none⟩ ∧ o = o' + i.toNat * sz) ∧ Rep G (f y) cs ∧ At G b o cs := by
 have hlt : i.toNat < ys.length := (List.getElem?_eq_some_iff.1 hy).1
 obtain ⟨b, o, cs, hA, h1, h2, h3⟩ := hs.at_ i.toNat (by simpa using hlt)
 have hyy : (ys.map f)[i.toNat]'(by simpa using hlt) = f y := by
  rw [List.getElem_map, (List.getElem?_eq_some_iff.1 hy).2]
 rw [hyy] at h2
 exact ⟨b, _, cs, ⟨h0, by omega, o, hA, rfl⟩, h2, h3⟩
theorem f_idx {t et sz c b o m : Nat} {agg : Bool} {x ix : Operand} {A : Option Addr} {kk : IntKind} {i : Int} {C : World → Prop} (hT : T.Ok P) (hb : 0 ≤ i ∧ i < (m : Int) ∧ ∃ o', A = some ⟨b, o', none⟩ ∧ o = o' + i.toNat * sz)
 (hx : ev e x = some (.slice A m c)) (hi : ev e ix = some (.int kk i)) (ht : lst T.sl t = some (et, sz, agg)) : RT P n e C (.indexAddr t x ix) (.pointer (some ⟨b, o, none⟩)) := by
 intro a w dst ty ps af g hE hI
 obtain ⟨h0, hlt, o', rfl, rfl⟩ := hb
 obtain ⟨hu, hsz, _⟩ := hT.sl _ (lst_mem ht)
 simp [execOp, hE.eval hx, hE.eval hi, Instr.indexAt, asIntOf, run_underlying hu, h0, hlt, run_ty hsz, Addr.add_lit]
theorem s_call {f : Nat} {args : List Operand} {ats : Array TypeId} {vs : List Value} {Lp Lr : List Rs} {S : GH → List Rs → Value → Prop} (hcl : Callable P f) (hI : Inv w0 G0 D0 G (Lp ++ Lr) w) (hE : Env a n e) (hg : gd ops e g = some true) (hv : evs e args = some vs)
 (hc : Calls P f vs.toArray w (Ret w G (feet Lp) S)) (hd : Nat.blt d n = true)
 (k : ∀ a' w' v G' L', S G' L' v → G.le G' → Inv w0 G0 D0 G' (L' ++ Lr) w' → Env a' n ((d, v) :: e) → wpList P ops Q rest a' w') :
 wpList P ops Q (⟨some d, .call ⟨.value (.func f), args.toArray, ats⟩, ty, ps, af, g⟩ :: rest) a w := by
 refine wpList_do (gd_wanted hE hg) ?_
 unfold Oper.wp
 have hm : args.toArray.map a.eval = vs.toArray := by rw [List.map_toArray, hE.evals hv]
 have hrun : (execOp a.eval ⟨some d, .call ⟨.value (.func f), args.toArray, ats⟩, ty, ps, af, g⟩).run P w = .ok (.enter f vs.toArray) w := by
  simp [execOp, resolve, Act.eval, Deferred.ofValue, invoke, hm, call_run hcl]
 rw [hrun]
 refine hc.mono ?_
 rintro e' w' ⟨v, G', L', rfl, hI', hS⟩
 exact k _ _ _ _ _ hS hI'.le (hI.back hI') (hE.put hd v)
theorem s_call0 {f : Nat} {args : List Operand} {ats : Array TypeId} {vs : List Value} {S : GH → List Rs → Value → Prop} (hcl : Callable P f) (hI : Inv w0 G0 D0 G L w) (hE : Env a n e) (hg : gd ops e g = some true) (hv : evs e args = some vs)
 (hc : Calls P f ⟨vs⟩ w (Ret w G [] S)) (hd : Nat.blt d n = true)
 (k : ∀ a' w' v G' L', S G' L' v → G.le G' → Inv w0 G0 D0 G' (L' ++ L) w' → Env a' n ((d, v) :: e) → wpList P ops Q rest a' w') :
 wpList P ops Q (⟨some d, .call ⟨.value (.func f), ⟨args⟩, ats⟩, ty, ps, af, g⟩ :: rest) a w :=
 s_call (Lp := []) (Lr := L) hcl hI hE hg hv hc hd k
def resO (e : EL) : List ResultVar → Option Value
 | [] => some (.tuple ⟨[]⟩)
 | [.tmp t] => lk e t
 | [.tmp t, .tmp u] => match lk e t, lk e u with
  | some v, some x => some (.tuple ⟨[v, x]⟩)
  | _, _ => none
 | [.tmp t, .tmp u, .tmp r] => match lk e t, lk e u, lk e r with
  | some v, some x, some y => some (.tuple ⟨[v, x, y]⟩)
  | _, _, _ => none
 | [.tmp t, .tmp u, .tmp r, .tmp q] => match lk e t, lk e u, lk e r, lk e q with
  | some v, some x, some y, some z => some (.tuple ⟨[v, x, y, z]⟩)
  | _, _, _, _ => none
 | _ => none
theorem Env.getD (h : Env a n e) {t : Nat} {v : Value} (ht : lk e t = some v) : a.tmps.getD t undef = v := by
 have := h.get t v ht
 simp [Array.getD_eq_getD_getElem?, this]
theorem res_run (hE : Env a n e) {l : List ResultVar} {v : Value} (h : resO e l = some v) (fn : Func) (hf : fn.results = l.toArray) : (results fn a.tmps).run P w = .ok v w := by
 unfold resO at h
 split at h
 · cases h; exact results_none hf _ _ _
 · rw [results_tmp hf, hE.getD h]
 · split at h
   · rename_i h1 h2
     cases h
     rw [results_tmp2 hf, hE.getD h1, hE.getD h2]
   · cases h
 · split at h
   · rename_i h1 h2 h3
     cases h
     simp [results, hf, -Array.getD_eq_getD_getElem?, hE.getD h1, hE.getD h2, hE.getD h3]
   · cases h
 · split at h
   · rename_i h1 h2 h3 h4
     cases h
     simp [results, hf, -Array.getD_eq_getD_getElem?, hE.getD h1, hE.getD h2, hE.getD h3, hE.getD h4]
   · cases h
 · cases h
theorem r_ret {fn : Func} {R : Ending → World → Prop} {v : Value} (hE : Env a n e) (hv : resO e fn.results.toList = some v) (hR : R (.returned v) w) : bodyPost P fn R .ret a w :=
 ⟨hE.defers, _, res_run hE hv fn (by simp), hR⟩
theorem c_ret (h : Q .ret a w) : Code.ret.wp P Q a w := wp_ret h
end
end Go.Proofs.YtknhbphhdfknaaaGreatDoor
