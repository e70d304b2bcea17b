import Derived.Test.YtknhbphhdfknaaaGreatDoorCxS
import Derived.Laws.Build
set_option linter.unusedVariables false
set_option linter.unusedSimpArgs false
namespace Go.Proofs.YtknhbphhdfknaaaGreatDoor
open Go.RowKit
noncomputable def mth2 : List FieldStep → Option (Nat × Bool) → Option TypeDesc → Option Nat
 | [], some (f, true), some (.pointer _) => some f
 | _, _, _ => none
noncomputable def mth1 (P : Program) (t : Nat) : Option Method → Option Nat
 | some m => mth2 m.path.toList m.func (P.underlying t)
 | none => none
noncomputable def mthA (P : Program) (t : Nat) (name : String) : Option TypeInfo → Option Nat
 | some i => mth1 P t (i.methods.find? (·.name == name))
 | none => none
section
variable {T : Tab} {P : Program} {n : Nat} {ops : Array Oper} {Q : Exit → Act → World → Prop} {w w0 : World} {G0 G : GH} {D0 : List Nat} {L : List Rs} {e : EL} {a : Act} {rest : List Oper} {C : World → Prop}
theorem f_chkI {t : Nat} {q : Value} {x : Operand} (hx : ev e x = some (.iface t q)) : RT P n e C (.nilCheck x) (.iface t q) := by
 intro a w dst ty ps af g hE hC
 simp [execOp, hE.eval hx]
theorem f_mkI {t : Nat} {q : Value} {x : Operand} {d : TypeDesc} (hd : P.underlying t = some d) (hn : ∀ m, d ≠ .interface m) (hx : ev e x = some q) : RT P n e C (.makeInterface t x) (.iface t q) := by
 intro a w dst ty ps af g hE hC
 have : (Instr.makeInterface t q).run P w = .ok (.iface t q) w := run_makeInterface w t q (by unfold Program.concrete; rw [hd]; cases d <;> first | rfl | exact (hn _ rfl).elim)
 simp [execOp, hE.eval hx, this]
theorem run_ti {t : Nat} {i : TypeInfo} {w : World} (h : P.info? t = some i) : (typeInfo t).run P w = .ok i w := by
 simp [typeInfo, h, Sem.run]
theorem mth_run {t f : Nat} {name : String} (h : mthA P t name (P.info? t) = some f) (v : Value) (w : World) : (method (P.types.size + Made.depth) t v name).run P w = .ok (f, v) w := by
 unfold mthA at h
 split at h
 · rename_i i hi
   unfold mth1 at h
   split at h
   · rename_i m hm
     unfold mth2 at h
     split at h
     · rename_i f' te hp hf hu
       cases h
       obtain ⟨k, hk⟩ : ∃ k, P.types.size + Made.depth = k + 1 := ⟨P.types.size + 99, rfl⟩
       rw [hk]
       simp only [method, Sem.run_bind, run_ti hi, Result.andThen_ok, hm, hp, follow, hf, receiverAt, run_underlying hu, Place.get, Sem.run_pure]
     · cases h
   · cases h
 · cases h
theorem enterI_run {t f : Nat} {q : Value} {name : String} {x : Operand} {args : List Operand} {vs : List Value} {e : EL} {a : Act} {ats : Array TypeId} {ty : Nat} {ps : String} {af : Array Edge} {g : Option (Nat × Bool)} (hm : ∀ w, (method (P.types.size + Made.depth) t q name).run P w = .ok (f, q) w) (hcl : Callable P f) (hE : Env a n e) (hx : ev e x = some (.iface t q)) (hv : evs e args = some vs) (dst : Option Tmp) (w : World) : (execOp a.eval ⟨dst, .call ⟨.invoke x name, ⟨args⟩, ats⟩, ty, ps, af, g⟩).run P w = .ok (.enter f ⟨q :: vs⟩) w := by
 have hmm : (⟨args⟩ : Array Operand).map a.eval = ⟨vs⟩ := by
  have := hE.evals hv
  rw [List.map_toArray, this]
 simp only [execOp, resolve, hE.eval hx, Sem.run_bind, Sem.run_pure, Result.andThen_ok, invoke, hmm]
 have h0 : ((#[Value.iface t q] ++ (⟨vs⟩ : Array Value))[0]? : Option Value) = some (.iface t q) := by simp
 have h1 : (#[Value.iface t q] ++ (⟨vs⟩ : Array Value)).extract 1 (#[Value.iface t q] ++ (⟨vs⟩ : Array Value)).size = ⟨vs⟩ := by
  apply Array.ext'
  simp
 rw [h0, h1]
 simp only [callMethod, Sem.run_bind, run_program, Result.andThen_ok, hm]
 rw [show (#[q] ++ (⟨vs⟩ : Array Value)) = ⟨q :: vs⟩ from by apply Array.ext'; simp, call_run hcl]
theorem s_callI {d ty t f : Nat} {ps : String} {af : Array Edge} {g : Option (Nat × Bool)} {x : Operand} {args : List Operand} {ats : Array TypeId} {vs : List Value} {S : GH → List Rs → Value → Prop} {v q : Value} {name : String}
 (hm : ∀ (q : Value) (w : World), (method (P.types.size + Made.depth) t q name).run P w = .ok (f, q) w) (hcl : Callable P f) (hI : Inv w0 G0 D0 G L w) (hE : Env a n e) (hg : gd ops e g = some true) (hx : ev e x = some (.iface t q)) (hv : evs e args = some vs)
 (hc : Calls P f ⟨q :: vs⟩ w (Ret w G [] S)) (hS : ∀ G' L' u, S G' L' u → u = v) (hd : Nat.blt d n = true)
 (k : ∀ a' w', Inv w0 G0 D0 G L w' → Env a' n ((d, v) :: e) → wpList P ops Q rest a' w') :
 wpList P ops Q (⟨some d, .call ⟨.invoke x name, ⟨args⟩, ats⟩, ty, ps, af, g⟩ :: rest) a w := by
 refine wpList_do (gd_wanted hE hg) ?_
 unfold Oper.wp
 rw [enterI_run (fun w => hm q w) hcl hE hx hv]
 refine hc.mono ?_
 rintro e' w' ⟨u, G', L', rfl, hI', hs⟩
 have := hS _ _ _ hs
 subst this
 exact k _ _ (hI.back0 (Inv.lent hI.inG hI')) (hE.put hd _)
end
end Go.Proofs.YtknhbphhdfknaaaGreatDoor
