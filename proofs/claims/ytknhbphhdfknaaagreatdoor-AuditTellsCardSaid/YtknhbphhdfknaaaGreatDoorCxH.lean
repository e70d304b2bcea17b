import Derived.Test.YtknhbphhdfknaaaGreatDoorCxE
import Derived.Deep.Quiet
set_option linter.unusedVariables false
set_option linter.unusedSimpArgs false
namespace Go.Proofs.YtknhbphhdfknaaaGreatDoor
open Go.RowKit
section
variable {T : Tab} {P : Program} {n : Nat} {ops : Array Oper} {Q : Exit → Act → World → Prop} {w w0 : World} {G0 G : GH} {D0 : List Nat} {L L1 : List Rs} {e : EL} {a : Act} {rest : List Oper}
variable {d ty t yt : Nat} {ps : String} {af : Array Edge} {g : Option (Nat × Bool)} {x y : Operand} {k : IntKind} {A B z : Int}
theorem f_quo {C : World → Prop}  (hx : ev e x = some (.int k A)) (hy : ev e y = some (.int k B)) (hz : quoO k A B = some z) : RT P n e C (.binOp .quo t x y yt) (.int k z) := by
 intro a w dst ty ps af g hE hC
 unfold quoO at hz
 split at hz
 · cases hz
 · rename_i hb; cases hz
   simp [execOp, hE.eval hx, hE.eval hy, eqGuard, binOp, Op.intDiv, hb]
theorem f_rem {C : World → Prop}  (hx : ev e x = some (.int k A)) (hy : ev e y = some (.int k B)) (hz : remO A B = some z) : RT P n e C (.binOp .rem t x y yt) (.int k z) := by
 intro a w dst ty ps af g hE hC
 unfold remO at hz
 split at hz
 · cases hz
 · rename_i hb; cases hz
   simp [execOp, hE.eval hx, hE.eval hy, eqGuard, binOp, Op.intDiv, hb]
theorem f_shl {k' : IntKind} {C : World → Prop}  (hx : ev e x = some (.int k A)) (hy : ev e y = some (.int k' B)) (hz : shlO k A B = some z) : RT P n e C (.binOp .shl t x y yt) (.int k z) := by
 intro a w dst ty ps af g hE hC
 unfold shlO at hz
 split at hz
 · cases hz
 · rename_i hb; cases hz
   simp [execOp, hE.eval hx, hE.eval hy, eqGuard, binOp, Op.shift, hb]
theorem f_shr {k' : IntKind} {C : World → Prop}  (hx : ev e x = some (.int k A)) (hy : ev e y = some (.int k' B)) (hz : shrO k A B = some z) : RT P n e C (.binOp .shr t x y yt) (.int k z) := by
 intro a w dst ty ps af g hE hC
 unfold shrO at hz
 split at hz
 · cases hz
 · rename_i hb; cases hz
   simp [execOp, hE.eval hx, hE.eval hy, eqGuard, binOp, Op.shift, hb]
theorem f_sidx {s : ByteArray} (hT : T.Ok P) {C : World → Prop}  (ht : T.lt.any (Nat.beq t) = true) (hx : ev e x = some (.string s)) (hy : ev e y = some (.int k B)) (hz : strAt s B = some z) : RT P n e C (.index t x y) (.int .u8 z) := by
 intro a w dst ty ps af g hE hC
 obtain ⟨t', ht', htt⟩ := List.any_eq_true.1 ht
 have hu := hT.lt t' ht'
 have := Nat.eq_of_beq_eq_true htt
 subst this
 unfold strAt at hz
 split at hz
 · rename_i hb; cases hz
   have hlt : B.toNat < s.size := by omega
   simp [execOp, hE.eval hx, hE.eval hy, Instr.index, run_underlying hu, asIntOf, hb]
 · cases hz
theorem f_scut {s r : ByteArray} {lo hi : Option Operand} {l h : Int} {kl kh : IntKind} (hT : T.Ok P) {C : World → Prop}  (ht : T.lt.any (Nat.beq t) = true) (hx : ev e x = some (.string s))
 (hl : (match lo with | some o => ev e o | none => some (.int .i64 0)) = some (.int kl l)) (hh : (match hi with | some o => ev e o | none => some (.int .i64 s.size)) = some (.int kh h)) (hz : strCut s l h = some r) : RT P n e C (.slice t x lo hi none) (.string r) := by
 intro a w dst ty ps af g hE hC
 obtain ⟨t', ht', htt⟩ := List.any_eq_true.1 ht
 have hu := hT.lt t' ht'
 have := Nat.eq_of_beq_eq_true htt
 subst this
 unfold strCut at hz
 split at hz
 · rename_i hb; cases hz
   cases lo with
   | none =>
    simp at hl; obtain ⟨rfl, rfl⟩ := hl
    cases hi with
    | none => simp at hh; obtain ⟨rfl, rfl⟩ := hh; simp [execOp, hE.eval hx, Instr.sliceAt, Instr.slice, Instr.sliceBounds, run_underlying hu]
    | some o => have := hE.eval hh; simp [execOp, hE.eval hx, Instr.sliceAt, Instr.slice, Instr.sliceBounds, Instr.sliceBound, run_underlying hu, this, asIntOf, hb]
   | some o =>
    have h1 := hE.eval hl
    cases hi with
    | none => simp at hh; obtain ⟨rfl, rfl⟩ := hh; simp [execOp, hE.eval hx, Instr.sliceAt, Instr.slice, Instr.sliceBounds, Instr.sliceBound, run_underlying hu, h1, asIntOf, hb]
    | some o =>
     have := hE.eval hh
     have h0 : 0 ≤ h := by omega
     have h2 : max h 0 = h := by omega
     simp [execOp, hE.eval hx, Instr.sliceAt, Instr.slice, Instr.sliceBounds, Instr.sliceBound, run_underlying hu, this, h1, asIntOf, hb, h0, h2]
 · cases hz
end
inductive ResIs (T : Tab) (e : EL) (L : List Rs) : List ResultVar → List Value → Prop where
 | nil : ResIs T e L [] []
 | tmp {t : Nat} {v : Value} {l : List ResultVar} {vs : List Value} (h : lk e t = some v) (k : ResIs T e L l vs) : ResIs T e L (.tmp t :: l) (v :: vs)
 | cell {x t b off sz : Nat} {agg : Bool} {cs : List Value} {T' : Nat} {v : Value} {l : List ResultVar} {vs : List Value} (i : Nat) (hx : lk e x = some (.pointer (some ⟨b, off, none⟩))) (hL : L[i]? = some (.blk b cs T')) (ht : lst T.ty t = some (sz, agg)) (hv : ldv agg cs off sz = some v)
  (k : ResIs T e L l vs) : ResIs T e L (.cell x t :: l) (v :: vs)
def outV : List Value → Value
 | [v] => v
 | vs => .tuple ⟨vs⟩
section
variable {T : Tab} {P : Program} {n : Nat} {w w0 : World} {G0 G : GH} {D0 : List Nat} {L : List Rs} {e : EL} {a : Act}
theorem resIs_run (hT : T.Ok P) (hE : Env a n e) (hI : Inv w0 G0 D0 G L w) {l : List ResultVar} {vs : List Value} (h : ResIs T e L l vs) :
 (l.mapM (fun | .tmp t => pure (a.tmps.getD t undef) | .cell x t => do loadVar t (← asAddr (a.tmps.getD x undef)) : ResultVar → Sem Value)).run P w = .ok vs w := by
 induction h with
 | nil => simp [List.mapM_nil]
 | tmp h k ih =>
  rw [List.mapM_cons]
  simp only [Sem.run_bind, Sem.run_pure, Result.andThen_ok, hE.getD h, ih]
 | @cell x t b off sz agg cs T' v l vs i hx hL ht hv k ih =>
  rw [List.mapM_cons]
  have hb := hI.ok _ (List.mem_of_getElem? hL)
  have h1 := load_run (P := P) (w := w) (b := b) (o := 0) (off := off) hT ht hv (fun j u hu => by simp [World.cell?, show w.heap[b]? = _ from hb, hu])
  rw [Nat.zero_add] at h1
  simp only [Instr.loadAt, Instr.sureAddr, Sem.run_bind, Sem.run_pure, Result.andThen_ok] at h1
  have hA : (asAddr (.pointer (some ⟨b, off, none⟩))).run P w = .ok ⟨b, off, none⟩ w := rfl
  simp only [Sem.run_bind, hE.getD hx, hA, Sem.run_pure, Result.andThen_ok, h1, ih]
theorem r_retC {fn : Func} {R : Ending → World → Prop} {vs : List Value} {v : Value} (hT : T.Ok P) (hE : Env a n e) (hI : Inv w0 G0 D0 G L w) (hv : ResIs T e L fn.results.toList vs) (ho : outV vs = v) (hR : R (.returned v) w) : bodyPost P fn R .ret a w := by
 refine ⟨hE.defers, v, ?_, hR⟩
 have h1 := resIs_run hT hE hI hv
 have h2 : (fn.results.mapM (fun | .tmp t => pure (a.tmps.getD t undef) | .cell x t => do loadVar t (← asAddr (a.tmps.getD x undef)) : ResultVar → Sem Value)).run P w = .ok ⟨vs⟩ w := by
  have : fn.results = fn.results.toList.toArray := by simp
  rw [this, List.mapM_toArray]
  change ((fn.results.toList.mapM (fun | .tmp t => pure (a.tmps.getD t undef) | .cell x t => do loadVar t (← asAddr (a.tmps.getD x undef)) : ResultVar → Sem Value) >>= fun a => pure a.toArray) : Sem _).run P w = _
  rw [Sem.run_bind, h1]; rfl
 unfold results
 rw [Sem.run_bind]
 refine (congrArg (fun r => Result.andThen r _) h2).trans ?_
 simp only [Result.andThen_ok, Sem.run_pure]
 subst ho
 congr 1
 match vs with
 | [] => rfl
 | [v] => rfl
 | v :: u :: vs => simp [outV]
end
section
variable {T : Tab} {P : Program} {n : Nat} {ops : Array Oper} {w w0 : World} {G0 G : GH} {D0 : List Nat} {L : List Rs} {e : EL} {a : Act} {rest : List Oper} {C : World → Prop} {Q : Act → Prop}
variable {d ty : Nat} {ps : String} {af : Array Edge} {g : Option (Nat × Bool)}
theorem c_draw {id : Nat} {Q : Exit → Act → World → Prop} (hm : P.follows .mixedOrders = true) (hB : Region.lexB .any ops = true) (hI : Inv w0 G0 D0 G L w)
 (h : wpQuiet P ops (Inv w0 G0 D0 G L) (fun a' => ∀ w', Inv w0 G0 D0 G L w' → Q .normal a' w') ops.toList a) : (Code.region id ops true).wp P Q a w :=
 wp_region_quiet hm hB hI.drew h
theorem wpQuiet_do {o : Oper} {v : Value} (hg : Region.wanted o (yielded ops a.tmps) = true) (h : ∀ w, C w → o.quietAt P a C w v) (k : wpQuiet P ops C Q rest (a.put o.dst v)) : wpQuiet P ops C Q (o :: rest) a := by
 unfold wpQuiet; rw [if_pos hg]; exact ⟨v, h, k⟩
theorem wpQuiet_no {o : Oper} (hg : Region.wanted o (yielded ops a.tmps) = false) (k : wpQuiet P ops C Q rest (a.put o.dst undef)) : wpQuiet P ops C Q (o :: rest) a := by
 unfold wpQuiet; rw [if_neg (by simp [hg])]; exact k
theorem quiet_val {o : Oper} {v : Value} (h : (execOp a.eval o).run P w = .ok (.value v) w) : o.quietAt P a C w v := by
 unfold Oper.quietAt; rw [h]; exact ⟨rfl, rfl⟩
theorem q_rt {o : Op} {v : Value} (hE : Env a n e) (hg : gd ops e g = some true) (hr : RT P n e C o v) (hd : Nat.blt d n = true)
 (k : ∀ a', Env a' n ((d, v) :: e) → wpQuiet P ops C Q rest a') : wpQuiet P ops C Q (⟨some d, o, ty, ps, af, g⟩ :: rest) a :=
 wpQuiet_do (gd_wanted hE hg) (fun w hC => quiet_val (hr a w _ _ _ _ _ hE hC)) (k _ (hE.put hd _))
theorem runq (hT : T.Ok P) (m : Nat) : ∀ {e e' : EL} {l l' : List Oper} {a : Act}, Env a n e → runP T n ops m e l = some (e', l') →
 (∀ a', Env a' n e' → wpQuiet P ops C Q l' a') → wpQuiet P ops C Q l a := by
 induction m with
 | zero => intro e e' l l' a hE h k; simp [runP] at h; obtain ⟨rfl, rfl⟩ := h; exact k a hE
 | succ m ih =>
  intro e e' l l' a hE h k
  cases l with
  | nil => simp [runP] at h
  | cons o l =>
   unfold runP at h
   split at h
   · rename_i hg
     split at h
     · rename_i v hv
       split at h
       · rename_i d hd
         cases hb : Nat.blt d n with
         | false => rw [hb] at h; cases h
         | true =>
          rw [hb] at h
          refine wpQuiet_do (gd_wanted hE hg) (fun w _ => quiet_val (pev_run hT hE hv w)) ?_
          rw [hd]
          exact ih (hE.put hb v) h k
       · cases h
     · cases h
   · rename_i hg
     refine wpQuiet_no (gd_wanted hE hg) ?_
     split at h
     · rename_i d hd
       cases hb : Nat.blt d n with
       | false => rw [hb] at h; cases h
       | true =>
        rw [hb] at h
        rw [hd]
        exact ih (hE.put hb _) h k
     · rename_i hd
       rw [hd]
       exact ih hE h k
   · cases h
theorem q_end {K : Act → World → Prop} (h : ∀ w', Inv w0 G0 D0 G L w' → K a w') : wpQuiet P ops (Inv w0 G0 D0 G L) (fun a' => ∀ w', Inv w0 G0 D0 G L w' → K a' w') [] a := wpQuiet_nil h
theorem Inv.less {G' : GH} {w' : World} (h : Inv w0 G0 D0 G L w) (k : Inv w0 G0 D0 G' L w') (hg : G.le G') : Inv w0 G0 D0 G L w' := by
 refine ⟨k.os, k.tape, k.output, k.size, k.fr, h.le, h.fresh, k.inG.mono hg, k.ok, fun r hr b hb => ⟨?_, (k.sep r hr b hb).2⟩, k.dis⟩
 cases hGb : G b with
 | none => rfl
 | some o =>
  have h1 := hg b o hGb
  rw [(k.sep r hr b hb).1] at h1
  cases h1
theorem q_call {f : Nat} {args : List Operand} {ats : Array TypeId} {vs : List Value} {S : GH → List Rs → Value → Prop} {v : Value} (hcl : Callable P f) (hE : Env a n e) (hg : gd ops e g = some true) (hv : evs e args = some vs)
 (hc : ∀ w, Inv w0 G0 D0 G L w → Calls P f ⟨vs⟩ w (Ret w G [] S)) (hS : ∀ G' L' u, S G' L' u → u = v) (hd : Nat.blt d n = true)
 (k : ∀ a', Env a' n ((d, v) :: e) → wpQuiet P ops (Inv w0 G0 D0 G L) Q rest a') :
 wpQuiet P ops (Inv w0 G0 D0 G L) Q (⟨some d, .call ⟨.value (.func f), ⟨args⟩, ats⟩, ty, ps, af, g⟩ :: rest) a := by
 refine wpQuiet_do (v := v) (gd_wanted hE hg) (fun w hC => ?_) (k _ (hE.put hd _))
 have hm : (⟨args⟩ : Array Operand).map a.eval = ⟨vs⟩ := by
  have := hE.evals hv
  rw [List.map_toArray, this]
 have hrun : (execOp a.eval ⟨some d, .call ⟨.value (.func f), ⟨args⟩, ats⟩, ty, ps, af, g⟩).run P w = .ok (.enter f ⟨vs⟩) w := by
  simp only [execOp, resolve, Act.eval, Deferred.ofValue, Sem.run_bind, Sem.run_pure, Result.andThen_ok, invoke, hm]
  simp [call_run hcl]
 unfold Oper.quietAt
 rw [hrun]
 refine ⟨rfl, (hc w hC).mono ?_⟩
 rintro e' w' ⟨u, G', L', rfl, hI', hs⟩
 have := hS _ _ _ hs
 subst this
 exact ⟨rfl, hC.less ((hC.back0 hI').sub (List.sublist_append_right _ _)) hI'.le⟩
end
end Go.Proofs.YtknhbphhdfknaaaGreatDoor
