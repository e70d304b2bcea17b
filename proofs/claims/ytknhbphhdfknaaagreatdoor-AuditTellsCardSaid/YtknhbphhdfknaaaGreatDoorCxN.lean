import Derived.Test.YtknhbphhdfknaaaGreatDoorCxM
import Derived.Laws.BytesArg
import Derived.LoopN
set_option linter.unusedVariables false
set_option linter.unusedSimpArgs false
namespace Go.Proofs.YtknhbphhdfknaaaGreatDoor
open Go.RowKit
theorem Inv.lent {w w' : World} {G H H' : GH} {L' : List Rs} (hG : InG G w) (k : Inv w H [] H' L' w') : Inv w G [] G [] w' :=
 ⟨k.os, k.tape, k.output, k.size, k.fr, GH.le.refl _, fun _ _ _ => rfl, fun b o hb => by
  have h1 := hG b o hb
  have hlt : b < w.heap.size := (Array.getElem?_eq_some_iff.1 h1).1
  exact (k.fr b hlt (by simp)).trans h1, by simp, by simp, .nil⟩
def CallsV (P : Program) (V : Value) (vs : List Value) (w : World) (Q : Ending → World → Prop) : Prop := ∃ f cap, V = .func (.func f) #[] ⟨cap⟩ ∧ Callable P f ∧ Calls P f ⟨vs ++ cap⟩ w Q
section
variable {T : Tab} {P : Program} {n : Nat} {ops : Array Oper} {Q : Exit → Act → World → Prop} {w w0 : World} {G0 G : GH} {D0 : List Nat} {L : List Rs} {e : EL} {a : Act} {rest : List Oper} {C : World → Prop}
variable {d ty t yt : Nat} {ps : String} {af : Array Edge} {g : Option (Nat × Bool)} {x y : Operand} {f : Nat} {args : List Operand} {ats : Array TypeId} {vs : List Value} {S : GH → List Rs → Value → Prop} {v V : Value}
theorem enter_run (hcl : Callable P f) (hE : Env a n e) (hv : evs e args = some vs) (dst : Option Tmp) : (execOp a.eval ⟨dst, .call ⟨.value (.func f), ⟨args⟩, ats⟩, ty, ps, af, g⟩).run P w = .ok (.enter f ⟨vs⟩) w := by
 have hm : (⟨args⟩ : Array Operand).map a.eval = ⟨vs⟩ := by
  have := hE.evals hv
  rw [List.map_toArray, this]
 simp only [execOp, resolve, Act.eval, Deferred.ofValue, Sem.run_bind, Sem.run_pure, Result.andThen_ok, invoke, hm]
 simp [call_run hcl]
theorem enterV_run {cap : List Value} (hcl : Callable P f) (hE : Env a n e) (hx : ev e x = some (.func (.func f) #[] ⟨cap⟩)) (hv : evs e args = some vs) (dst : Option Tmp) : (execOp a.eval ⟨dst, .call ⟨.value x, ⟨args⟩, ats⟩, ty, ps, af, g⟩).run P w = .ok (.enter f ⟨vs ++ cap⟩) w := by
 have hm : (⟨args⟩ : Array Operand).map a.eval = ⟨vs⟩ := by
  have := hE.evals hv
  rw [List.map_toArray, this]
 simp only [execOp, resolve, hE.eval hx, Deferred.ofValue, Sem.run_bind, Sem.run_pure, Result.andThen_ok, invoke, hm]
 simp [call_run hcl]
theorem s_callL (hcl : Callable P f) (hI : Inv w0 G0 D0 G L w) (hE : Env a n e) (hg : gd ops e g = some true) (hv : evs e args = some vs)
 (hc : ∃ H, Calls P f ⟨vs⟩ w (Ret w H [] S)) (hS : ∀ G' L' u, S G' L' u → u = v) (hd : Nat.blt d n = true)
 (k : ∀ a' w', Inv w0 G0 D0 G L w' → Env a' n ((d, v) :: e) → wpList P ops Q rest a' w') :
 wpList P ops Q (⟨some d, .call ⟨.value (.func f), ⟨args⟩, ats⟩, ty, ps, af, g⟩ :: rest) a w := by
 refine wpList_do (gd_wanted hE hg) ?_
 unfold Oper.wp
 rw [enter_run hcl hE hv]
 obtain ⟨H, hc⟩ := hc
 refine hc.mono ?_
 rintro e' w' ⟨u, G', L', rfl, hI', hs⟩
 have := hS _ _ _ hs
 subst this
 exact k _ _ (hI.back0 (Inv.lent hI.inG hI')) (hE.put hd _)
theorem q_callL {K : Act → Prop} (hcl : Callable P f) (hE : Env a n e) (hg : gd ops e g = some true) (hv : evs e args = some vs)
 (hc : ∀ w, Inv w0 G0 D0 G L w → ∃ H, Calls P f ⟨vs⟩ w (Ret w H [] S)) (hS : ∀ G' L' u, S G' L' u → u = v) (hd : Nat.blt d n = true)
 (k : ∀ a', Env a' n ((d, v) :: e) → wpQuiet P ops (Inv w0 G0 D0 G L) K rest a') :
 wpQuiet P ops (Inv w0 G0 D0 G L) K (⟨some d, .call ⟨.value (.func f), ⟨args⟩, ats⟩, ty, ps, af, g⟩ :: rest) a := by
 refine wpQuiet_do (v := v) (gd_wanted hE hg) (fun w hC => ?_) (k _ (hE.put hd _))
 unfold Oper.quietAt
 rw [enter_run hcl hE hv]
 obtain ⟨H, hc⟩ := hc w hC
 refine ⟨rfl, hc.mono ?_⟩
 rintro e' w' ⟨u, G', L', rfl, hI', hs⟩
 have := hS _ _ _ hs
 subst this
 exact ⟨rfl, hC.back0 (Inv.lent hC.inG hI')⟩
theorem s_callV (hI : Inv w0 G0 D0 G L w) (hE : Env a n e) (hg : gd ops e g = some true) (hx : ev e x = some V) (hv : evs e args = some vs)
 (hc : ∃ H, CallsV P V vs w (Ret w H [] S)) (hS : ∀ G' L' u, S G' L' u → u = v) (hd : Nat.blt d n = true)
 (k : ∀ a' w', Inv w0 G0 D0 G L w' → Env a' n ((d, v) :: e) → wpList P ops Q rest a' w') :
 wpList P ops Q (⟨some d, .call ⟨.value x, ⟨args⟩, ats⟩, ty, ps, af, g⟩ :: rest) a w := by
 obtain ⟨H, f, cap, rfl, hcl, hc⟩ := hc
 refine wpList_do (gd_wanted hE hg) ?_
 unfold Oper.wp
 rw [enterV_run hcl hE hx hv]
 refine hc.mono ?_
 rintro e' w' ⟨u, G', L', rfl, hI', hs⟩
 have := hS _ _ _ hs
 subst this
 exact k _ _ (hI.back0 (Inv.lent hI.inG hI')) (hE.put hd _)
theorem f_mkfn {cap : List Operand} {cv : List Value} (hv : evs e cap = some cv) : RT P n e C (.makeFunc (.func f) ⟨[]⟩ ⟨cap⟩) (.func (.func f) #[] ⟨cv⟩) := by
 intro a w dst ty ps af g hE hC
 have hm : (⟨cap⟩ : Array Operand).map a.eval = ⟨cv⟩ := by
  have := hE.evals hv
  rw [List.map_toArray, this]
 simp [execOp, hm, Instr.makeFunc]
theorem f_scat {A B : ByteArray} {u : Unit} (hl : lim (A.size + B.size) = some u) (hx : ev e x = some (.string A)) (hy : ev e y = some (.string B)) : RT P n e C (.binOp .add t x y yt) (.string (A ++ B)) := by
 intro a w dst ty ps af g hE hC
 have hl' : A.size + B.size ≤ 4294967296 := by
  unfold lim at hl
  split at hl
  · assumption
  · cases hl
 have h2 : ¬ (((A.size + B.size : Nat) : Int) > IntKind.i64.max) := by
  show ¬ ((9223372036854775807 : Int) < _); omega
 have hb : (Op.stringOp .add A B : Sem Value) = pure (.string (A ++ B)) := by
  unfold Op.stringOp
  simp only [if_neg h2]
 simp [execOp, hE.eval hx, hE.eval hy, eqGuard, binOp, hb]
theorem f_b2sG {xs : List Int} {A : Option Addr} {c s el dd : Nat} (hs : P.underlying s = some (.slice el)) (he : P.underlying el = some (.int .u8)) (hd : P.underlying dd = some .string) (hS : Sl G A c 1 (xs.map (D.int .u8))) (hx : ev e x = some (.slice A xs.length c)) :
 RT P n e (Inv w0 G0 D0 G L) (.convert s dd x) (.string (ofB xs)) := by
 intro a w dst ty ps af g hE hI
 have key : (convert s dd (.slice A xs.length c)).run P w = .ok (.string (ofB xs)) w := by
  rcases xs with _ | ⟨x0, xs0⟩
  · cases A with
    | none => exact run_convert_bytes_nil w s el hs he 0 c dd hd
    | some ad =>
     rw [run_convert_bytes_string w s dd el _ _ _ hs he hd]
     exact run_bytesToString w ad 0 c [] (run_loadCells_list (P := P) w ad [] (fun j v h => by simp at h))
  · rcases hS.2.2 with h0 | ⟨b, o, rfl, hr⟩
    · simp at h0
    · refine run_convert_bytes_arg w s el hs he b o _ c (x0 :: xs0) rfl (fun i hi => ?_) dd hd
      obtain ⟨b', o', cs, ⟨_, _, o'', h1, h2⟩, h3, h4⟩ := sl_at hS (i := (i : Int)) (by omega) (y := (x0 :: xs0)[i]) (by rw [Int.toNat_natCast, List.getElem?_eq_getElem hi])
      cases h1
      subst h2
      obtain rfl := rep_int.1 h3
      have h5 := h4 0 (by simp)
      have h6 := hI.inG.cell (h5.trans (by rfl))
      simp only [Int.toNat_natCast, Nat.mul_one, Nat.add_zero] at h6
      rw [h6, List.getD_eq_getElem?_getD, List.getElem?_eq_getElem hi]
      rfl
 simp [execOp, hE.eval hx, key]
theorem f_b2sR {xs : List Int} {A : Option Addr} {c s el dd te : Nat} {cs : List Value} {L' : List Rs} (i : Nat) (hs : P.underlying s = some (.slice el)) (he : P.underlying el = some (.int .u8)) (hd : P.underlying dd = some .string) (hf : front i L = .row (.slice A xs.length c) te 1 xs.length cs :: L') (hR : RL G 1 (xs.map (D.int .u8)) cs) (hx : ev e x = some (.slice A xs.length c)) :
 RT P n e (Inv w0 G0 D0 G L) (.convert s dd x) (.string (ofB xs)) := by
 intro a w dst ty ps af g hE hI
 have h1 := hI.front i
 rw [hf] at h1
 obtain ⟨G', hg, hI', h⟩ := h1.giveR (xs := xs.map (D.int .u8)) (by simp) hR
 exact f_b2sG hs he hd h hx a w dst ty ps af g hE hI'
theorem f_max3 {k : IntKind} {A B Z : Int} {z : Operand} (hx : ev e x = some (.int k A)) (hy : ev e y = some (.int k B)) (hz : ev e z = some (.int k Z)) : RT P n e C (.call ⟨.builtin .max, ⟨[x, y, z]⟩, ats⟩) (.int k (max (max A B) Z)) := by
 intro a w dst ty ps af g hE hC
 have hb : (Builtin.max_ ats ty #[.int k A, .int k B, .int k Z]).run P w = .ok (.int k (max (max A B) Z)) w := by
  simp only [Builtin.max_, List.foldlM_cons, List.foldlM_nil, Builtin.max2, Sem.run_bind, Sem.run_pure, Result.andThen_ok]
  congr 2
  omega
 simp [execOp, resolve, invoke, builtin, hE.eval hx, hE.eval hy, hE.eval hz, hb]
theorem one1_cells {v : Value} (h : one1 v = true) : v.cells = #[v] := by cases v <;> first | rfl | simp [one1] at h
theorem f_buildA4 {t te : Nat} {x0 x1 x2 x3 : Operand} {v0 v1 v2 v3 z0 z1 z2 z3 : Value} (hT : T.Ok P) (hu : P.underlying t = some (.array 4 te)) (ht : lst T.ty te = some (1, false)) (hz : (P.info? t).bind (·.zero) = some (.agg ⟨[z0, z1, z2, z3]⟩))
 (h0 : ev e x0 = some v0) (h1 : ev e x1 = some v1) (h2 : ev e x2 = some v2) (h3 : ev e x3 = some v3) (ho : [v0, v1, v2, v3].all one1 = true) : RT P n e C (.build t ⟨[(0, x0), (1, x1), (2, x2), (3, x3)]⟩) (.agg ⟨[v0, v1, v2, v3]⟩) := by
 intro a w dst ty ps af g hE hC
 obtain ⟨hs, _⟩ := hT.ty _ (lst_mem ht)
 dsimp only at hs
 simp only [List.all_cons, List.all_nil, Bool.and_true, Bool.and_eq_true] at ho
 obtain ⟨o0, o1, o2, o3⟩ := ho
 have hz' : (zeroValue t).run P w = .ok (.agg ⟨[z0, z1, z2, z3]⟩) w := by
  cases hi : P.info? t with
  | none => rw [hi] at hz; cases hz
  | some i => rw [hi] at hz; simp only [Option.bind_some] at hz; simp [zeroValue, typeInfo, hi, hz]
 have hf : Instr.fill (fun i => some (i * 1, 1)) #[z0, z1, z2, z3] [(0, v0), (1, v1), (2, v2), (3, v3)] = some #[v0, v1, v2, v3] := by
  simp only [Instr.fill, one1_cells o0, one1_cells o1, one1_cells o2, one1_cells o3]
  rfl
 have hb : (Instr.build t #[(0, v0), (1, v1), (2, v2), (3, v3)]).run P w = .ok (.agg ⟨[v0, v1, v2, v3]⟩) w := by
  unfold Instr.build
  simp only [Sem.run_bind, hz', Result.andThen_ok, run_underlying hu, run_ty hs, Value.cells]
  rw [show ({ toList := [z0, z1, z2, z3] } : Array Value) = #[z0, z1, z2, z3] from rfl]
  simp only [hf]
  rfl
 simp [execOp, hE.eval h0, hE.eval h1, hE.eval h2, hE.eval h3, hb]
theorem f_indexA {t te m : Nat} {vs : List Value} {kk : IntKind} {i : Nat} {v : Value} (hT : T.Ok P) (hu : P.underlying t = some (.array m te)) (ht : lst T.ty te = some (1, false)) (hx : ev e x = some (.agg ⟨vs⟩)) (hy : ev e y = some (.int kk (i : Int))) (hi : Nat.blt i m = true) (hv : vs[i]? = some v) :
 RT P n e C (.index t x y) v := by
 intro a w dst ty ps af g hE hC
 obtain ⟨hs, ha⟩ := hT.ty _ (lst_mem ht)
 dsimp only at hs ha
 have hlt : i < m := by simpa using hi
 have hv' : (⟨vs⟩ : Array Value)[i]? = some v := by simpa using hv
 have hp : (part te ⟨vs⟩ (i * 1)).run P w = .ok v w := by
  unfold part
  simp only [Sem.run_bind, run_agg ha, Result.andThen_ok, Nat.mul_one, hv']
  rfl
 have hb : (Instr.index t (.agg ⟨vs⟩) (.int kk (i : Int))).run P w = .ok v w := by
  unfold Instr.index
  simp only [Sem.run_bind, asIntOf, Sem.run_pure, Result.andThen_ok, run_underlying hu]
  rw [if_pos (by omega)]
  simp only [Sem.run_bind, run_ty hs, Result.andThen_ok, Int.toNat_natCast]
  exact hp
 simp [execOp, hE.eval hx, hE.eval hy, hb]
theorem s_inl {fn : Func} {c : Code} {cap : List Value} (hf : P.funcs[f]? = some fn) (hb : fn.body = some c) (hcl : Callable P f) (hE : Env a n e) (hg : gd ops e g = some true) (hx : ev e x = some (.func (.func f) #[] ⟨cap⟩)) (hv : evs e args = some vs)
 (h : c.wp P (bodyPost P fn (fun e' w' => ∃ v, e' = .returned v ∧ wpList P ops Q rest (a.put (some d) v) w')) { tmps := ⟨vs ++ cap⟩ ++ Array.replicate (fn.ntmps - (vs ++ cap).length) undef, defers := [] } w) :
 wpList P ops Q (⟨some d, .call ⟨.value x, ⟨args⟩, ats⟩, ty, ps, af, g⟩ :: rest) a w := by
 refine wpList_do (gd_wanted hE hg) ?_
 unfold Oper.wp
 rw [enterV_run hcl hE hx hv]
 refine (calls_of_wp hf hb h).mono ?_
 rintro e' w' ⟨u, rfl, h⟩
 exact h
theorem xN {c : Code} {k : Nat} (h : Code.rounds P c Q k a w) : Exit.then (Code.rounds P c Q k) Q .normal a w := h
theorem xNe {c : Code} {k i : Nat} (h : Q (.exit i) a w) : Exit.then (Code.rounds P c Q k) Q (.exit i) a w := h
theorem xNr {c : Code} {k : Nat} (h : Q .ret a w) : Exit.then (Code.rounds P c Q k) Q .ret a w := h
theorem c_rounds {c : Code} (k : Nat) (h : c.wp P (Exit.then (Code.rounds P c Q k) Q) a w) : (Code.loop c).wp P Q a w := wp_loop_rounds (k + 1) h
theorem c_round {c : Code} {k : Nat} (h : c.wp P (Exit.then (Code.rounds P c Q k) Q) a w) : Code.rounds P c Q (k + 1) a w := h
end
end Go.Proofs.YtknhbphhdfknaaaGreatDoor
