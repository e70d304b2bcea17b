/- The words of the walks: floats and complex numbers, and functions that are none of the text's. No program in sight. -/
import Derived.Test.YtknhbphhdfknaaaGreatDoorCxL
import Derived.Laws.FloatArith
import Derived.Laws.ComplexArith
import Derived.Laws.Cover2
import Derived.Laws.LoneSync
set_option linter.unusedVariables false
set_option linter.unusedSimpArgs false
namespace Go.Proofs.YtknhbphhdfknaaaGreatDoor
open Go.RowKit
section
variable {T : Tab} {P : Program} {n : Nat} {ops : Array Oper} {w w0 : World} {e : EL} {a : Act} {C : World → Prop}
variable {d ty t yt : Nat} {ps : String} {af : Array Edge} {g : Option (Nat × Bool)} {x y : Operand} {A B z : Nat}
theorem f_fadd (hx : ev e x = some (.float .f64 A)) (hy : ev e y = some (.float .f64 B)) (hz : fadd A B = some z) : RT P n e C (.binOp .add t x y yt) (.float .f64 z) := by
  intro a w dst ty ps af g hE hC
  have hb := run_float_arith (P := P) w .add t .f64 A B z hz
  simp [execOp, hE.eval hx, hE.eval hy, eqGuard, hb]
theorem f_fmul (hx : ev e x = some (.float .f64 A)) (hy : ev e y = some (.float .f64 B)) (hz : fmul A B = some z) : RT P n e C (.binOp .mul t x y yt) (.float .f64 z) := by
  intro a w dst ty ps af g hE hC
  have hb := run_float_arith (P := P) w .mul t .f64 A B z hz
  simp [execOp, hE.eval hx, hE.eval hy, eqGuard, hb]
theorem f_flt (hx : ev e x = some (.float .f64 A)) (hy : ev e y = some (.float .f64 B)) : RT P n e C (.binOp .lss t x y yt) (.bool (flt A B)) := by
  intro a w dst ty ps af g hE hC
  simp [execOp, hE.eval hx, hE.eval hy, eqGuard, binOp, Op.floatCmp, flt]
theorem f_fle (hx : ev e x = some (.float .f64 A)) (hy : ev e y = some (.float .f64 B)) : RT P n e C (.binOp .leq t x y yt) (.bool (fle A B)) := by
  intro a w dst ty ps af g hE hC
  simp [execOp, hE.eval hx, hE.eval hy, eqGuard, binOp, Op.floatCmp, fle]
theorem f_fgt (hx : ev e x = some (.float .f64 A)) (hy : ev e y = some (.float .f64 B)) : RT P n e C (.binOp .gtr t x y yt) (.bool (fgt A B)) := by
  intro a w dst ty ps af g hE hC
  simp [execOp, hE.eval hx, hE.eval hy, eqGuard, binOp, Op.floatCmp, fgt]
theorem f_fge (hx : ev e x = some (.float .f64 A)) (hy : ev e y = some (.float .f64 B)) : RT P n e C (.binOp .geq t x y yt) (.bool (fge A B)) := by
  intro a w dst ty ps af g hE hC
  simp [execOp, hE.eval hx, hE.eval hy, eqGuard, binOp, Op.floatCmp, fge]
theorem f_feq (hu : P.underlying t = some (.float .f64)) (hx : ev e x = some (.float .f64 A)) (hy : ev e y = some (.float .f64 B)) : RT P n e C (.binOp .eql t x y yt) (.bool (feq A B)) := by
  intro a w dst ty ps af g hE hC
  have hb : (binOp .eql t (.float .f64 A) (.float .f64 B)).run P w = .ok (.bool (feq A B)) w := by
    simp [binOp, Op.floatCmp, feq]
  simp [execOp, hE.eval hx, hE.eval hy, eqGuard, hb]
theorem f_cadd {A B z : Nat × Nat} (hx : ev e x = some (.complex .f64 A.1 A.2)) (hy : ev e y = some (.complex .f64 B.1 B.2)) (hz : cadd A B = some z) : RT P n e C (.binOp .add t x y yt) (.complex .f64 z.1 z.2) := by
  intro a w dst ty ps af g hE hC
  unfold cadd at hz
  obtain ⟨u, hu, hz⟩ := Option.bind_eq_some_iff.1 hz
  obtain ⟨v, hv, hz⟩ := Option.bind_eq_some_iff.1 hz
  cases hz
  have hb := run_complex_sum (P := P) w .add (.inl rfl) t .f64 A.1 A.2 B.1 B.2 u v (by unfold cSumBits; simp [floatBits, show FloatKind.f64.format.add A.1 B.1 = some u from hu, show FloatKind.f64.format.add A.2 B.2 = some v from hv])
  simp [execOp, hE.eval hx, hE.eval hy, eqGuard, hb]
theorem f_ceq {A B : Nat × Nat} (hu : P.underlying t = some (.complex .f64)) (hx : ev e x = some (.complex .f64 A.1 A.2)) (hy : ev e y = some (.complex .f64 B.1 B.2)) : RT P n e C (.binOp .eql t x y yt) (.bool (ceq A B)) := by
  intro a w dst ty ps af g hE hC
  have hb : (binOp .eql t (.complex .f64 A.1 A.2) (.complex .f64 B.1 B.2)).run P w = .ok (.bool (ceq A B)) w := by
    simp [binOp, Op.complexOp, Op.Complex.cmp, Op.floatCmp, asBool, ceq, feq]
  simp [execOp, hE.eval hx, hE.eval hy, eqGuard, hb]
theorem f_real {A : Nat × Nat} {ats : Array TypeId} (hx : ev e x = some (.complex .f64 A.1 A.2)) : RT P n e C (.call ⟨.builtin .real, ⟨[x]⟩, ats⟩) (.float .f64 A.1) := by
  intro a w dst ty ps af g hE hC
  have hb : Builtin.real_ ats ty #[.complex .f64 A.1 A.2] = pure (.float .f64 A.1) := rfl
  simp [execOp, resolve, invoke, builtin, hE.eval hx, hb]
theorem f_imag {A : Nat × Nat} {ats : Array TypeId} (hx : ev e x = some (.complex .f64 A.1 A.2)) : RT P n e C (.call ⟨.builtin .imag, ⟨[x]⟩, ats⟩) (.float .f64 A.2) := by
  intro a w dst ty ps af g hE hC
  have hb : Builtin.imag_ ats ty #[.complex .f64 A.1 A.2] = pure (.float .f64 A.2) := rfl
  simp [execOp, resolve, invoke, builtin, hE.eval hx, hb]
theorem f_cplx {ats : Array TypeId} (hx : ev e x = some (.float .f64 A)) (hy : ev e y = some (.float .f64 B)) : RT P n e C (.call ⟨.builtin .complex, ⟨[x, y]⟩, ats⟩) (.complex .f64 (A, B).1 (A, B).2) := by
  intro a w dst ty ps af g hE hC
  have hb : Builtin.complex_ ats ty #[.float .f64 A, .float .f64 B] = pure (.complex .f64 A B) := rfl
  simp [execOp, resolve, invoke, builtin, hE.eval hx, hE.eval hy, hb]
theorem f_fmin {ats : Array TypeId} (hx : ev e x = some (.float .f64 A)) (hy : ev e y = some (.float .f64 B)) (hz : fmin A B = some z) : RT P n e C (.call ⟨.builtin .min, ⟨[x, y]⟩, ats⟩) (.float .f64 z) := by
  intro a w dst ty ps af g hE hC
  unfold fmin at hz
  cases ho : FloatKind.f64.format.order A B with
  | none => rw [ho] at hz; cases hz
  | some o => rw [ho] at hz; cases o <;> cases hz <;> simp [execOp, resolve, invoke, builtin, Builtin.min_, Builtin.min2, hE.eval hx, hE.eval hy, ho]
theorem f_fmax {ats : Array TypeId} (hx : ev e x = some (.float .f64 A)) (hy : ev e y = some (.float .f64 B)) (hz : fmax A B = some z) : RT P n e C (.call ⟨.builtin .max, ⟨[x, y]⟩, ats⟩) (.float .f64 z) := by
  intro a w dst ty ps af g hE hC
  unfold fmax at hz
  cases ho : FloatKind.f64.format.order A B with
  | none => rw [ho] at hz; cases hz
  | some o => rw [ho] at hz; cases o <;> cases hz <;> simp [execOp, resolve, invoke, builtin, Builtin.max_, Builtin.max2, hE.eval hx, hE.eval hy, ho]
theorem f_i2f {k : IntKind} {i : Int} {s dd : Nat} (hs : (P.underlying s).isSome = true) (hd : P.underlying dd = some (.float .f64)) (hx : ev e x = some (.int k i)) : RT P n e C (.convert s dd x) (.float .f64 (fofInt i)) := by
  intro a w dst ty ps af g hE hC
  have hb := run_convert_int_float (P := P) w s dd k .f64 i hs hd
  simp [execOp, hE.eval hx, hb]; rfl
theorem f_f2i {i : Int} {s dd : Nat} (hs : (P.underlying s).isSome = true) (hd : P.underlying dd = some (.int .i64)) (hx : ev e x = some (.float .f64 A)) (hz : ftoInt A = some i) : RT P n e C (.convert s dd x) (.int .i64 i) := by
  intro a w dst ty ps af g hE hC
  have hb := run_convert_float_int (P := P) w s dd .f64 .i64 A i hs hd hz
  simp [execOp, hE.eval hx, hb]
/-- math.Trunc's own machine word, which is none of the text's. -/
theorem f_trunc {f : Nat} {fn : Func} {ats : Array TypeId} (hf : P.funcs[f]? = some fn) (hname : (fn.name == "runtime.NumGoroutine") = false) (hb : fn.body.isNone = true) (hn : Extern.findNext fn = none)
    (he : Extern.find fn = some (Extern.MathFloor.toIntegral "math.archTrunc" .zero)) (hx : ev e x = some (.float .f64 A)) (hz : ftrunc A = some z) : RT P n e C (.call ⟨.value (.func f), ⟨[x]⟩, ats⟩) (.float .f64 z) := by
  intro a w dst ty ps af g hE hC
  have hr : (callFunc f #[.float .f64 A]).run P w = .ok (.value (.float .f64 z)) w := by
    rw [run_callFunc_extern hf hname hb hn he]
    unfold ftrunc at hz
    have e1 : Extern.MathFloor.toIntegral "math.archTrunc" .zero #[.float .f64 A] = (match FloatKind.f64.decode A with
      | .nan s t => if FloatKind.f64.format.quiet t = t then pure (.float .f64 A) else do
        let kept ← choose (.extern "math.Floor,Ceil,Trunc,RoundToEven.signallingNaN kept" 2)
        pure (.float .f64 (if kept == 1 then A else FloatKind.f64.encode (.nan s (FloatKind.f64.format.quiet t))))
      | d => pure (.float .f64 (FloatKind.f64.encode (d.integral .zero)))) := rfl
    rw [e1]
    cases hd : FloatKind.f64.decode A <;> rw [hd] at hz <;> cases hz <;> rfl
  simp [execOp, resolve, show a.eval (.func f) = .func (.func f) #[] #[] from rfl, Deferred.ofValue, invoke, hE.eval hx, hr]
end
end Go.Proofs.YtknhbphhdfknaaaGreatDoor
