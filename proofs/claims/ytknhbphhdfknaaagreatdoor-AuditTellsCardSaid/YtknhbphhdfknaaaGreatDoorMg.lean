import Derived.Test.YtknhbphhdfknaaaGreatDoorMf
namespace Go.Proofs.YtknhbphhdfknaaaGreatDoor
open Go.RowKit
def ni (n : Int) : AV := .dat (.int .i64 n)
def nb (b : Bool) : AV := .dat (.bool b)
def ns (l : List UInt8) : AV := .dat (.string ⟨⟨l⟩⟩)
def nz : AV := .dat (.slice none 0 0)
theorem s_ext {P : Program} {n : Nat} {ops : Array Oper} {Q : Exit → Act → World → Prop} {w : World} {e : EL} {a : Act} {rest : List Oper} {d f ty : Nat} {ps : String} {af : Array Edge} {g : Option (Nat × Bool)} {args : List Operand} {ats : Array TypeId} {vs : List Value} {v : Value}
 (hE : Env a n e) (hg : gd ops e g = some true) (hv : evs e args = some vs) (hc : (callFunc f ⟨vs⟩).run P w = .ok (.value v) w) (hd : Nat.blt d n = true) (k : ∀ a', Env a' n ((d, v) :: e) → wpList P ops Q rest a' w) :
 wpList P ops Q (⟨some d, .call ⟨.value (.func f), ⟨args⟩, ats⟩, ty, ps, af, g⟩ :: rest) a w := by
 have hm : (⟨args⟩ : Array Operand).map a.eval = ⟨vs⟩ := by
  have := hE.evals hv
  rw [List.map_toArray, this]
 refine wpList_do (gd_wanted hE hg) (wp_val (v := v) (w' := w) ?_ (k _ (hE.put hd _)))
 simp only [execOp, resolve, Act.eval, Deferred.ofValue, Sem.run_bind, Sem.run_pure, Result.andThen_ok, invoke, hm]
 simp [hc]
end Go.Proofs.YtknhbphhdfknaaaGreatDoor
