import Derived.Test.YtknhbphhdfknaaaGreatDoorCxB
set_option linter.unusedVariables false
set_option linter.unusedSimpArgs false
namespace Go.Proofs.YtknhbphhdfknaaaGreatDoor
open Go.RowKit
theorem st_field {T : Tab} {P : Program} (hT : T.Ok P) {s f : Nat} {fs : List (Nat × Nat × Bool)} {y : Nat × Nat × Bool} (hs : lst T.st s = some fs) (hf : fs[f]? = some y) :
 ∃ FS F, P.underlying s = some (.struct FS) ∧ FS[f]? = some F ∧ F.offset = y.1 ∧ tySize P F.type = some y.2.1 ∧ tyAgg P F.type = some y.2.2 ∧ y.2.1 ≠ 0 := by
 obtain ⟨FS, h1, h2, h3⟩ := hT.st _ (lst_mem hs)
 have h4 := congrArg (fun l => l[f]?) h2
 simp only [List.getElem?_map, hf, Option.map_some] at h4
 cases hF : FS.toList[f]? with
 | none => simp [hF] at h4
 | some F =>
  simp only [hF, Option.map_some, Option.some.injEq, Prod.mk.injEq] at h4
  exact ⟨FS, F, h1, by simpa using hF, h4.1, h4.2.1, h4.2.2, h3 y (List.mem_of_getElem? hf)⟩
theorem pcall_run {T : Tab} {P : Program} (hT : T.Ok P) {a : Act} {n : Nat} {e : EL} (hE : Env a n e) {c : Call} {v : Value} (h : pcall T e c = some v) (ty : TypeId) (w : World) :
 (do let d ← resolve a.eval c ty; invoke d.target d.args : Sem Next).run P w = .ok (.value v) w := by
 obtain ⟨callee, args, argTypes⟩ := c
 obtain ⟨args⟩ := args
 obtain ⟨argTypes⟩ := argTypes
 unfold pcall at h
 dsimp only at h
 split at h
 · rename_i x t
   split at h
   · rename_i y A l cp hy hx
     cases h
     obtain ⟨hu, _⟩ := hT.sl _ (lst_mem hy)
     have := hE.eval hx
     simp [resolve, invoke, builtin, Builtin.len_, run_underlying hu, this, goInt]
   · rename_i s hy hx
     cases hb : T.lt.any (Nat.beq t) with
     | false => rw [hb] at h; cases h
     | true =>
      rw [hb] at h; cases h
      obtain ⟨z, hz, hzt⟩ := List.any_eq_true.1 hb
      have hu := hT.lt z hz
      have : t = z := Nat.eq_of_beq_eq_true hzt
      subst this
      have := hE.eval hx
      simp [resolve, invoke, builtin, Builtin.len_, run_underlying hu, this, goInt]
   · cases h
 · rename_i x y
   split at h
   · rename_i va vb hx hy
     have h1 := hE.eval hx; have h2 := hE.eval hy
     simp [resolve, invoke, builtin, Builtin.max_, h1, h2, pmax_run h]
   · cases h
 · rename_i x y
   split at h
   · rename_i va vb hx hy
     have h1 := hE.eval hx; have h2 := hE.eval hy
     simp [resolve, invoke, builtin, Builtin.min_, h1, h2, pmin_run h]
   · cases h
 · cases h
theorem pev_run {T : Tab} {P : Program} (hT : T.Ok P) {a : Act} {n : Nat} {e : EL} (hE : Env a n e) {o : Oper} {v : Value} (h : pev T e o.op = some v) (w : World) :
 (execOp a.eval o).run P w = .ok (.value v) w := by
 obtain ⟨dst, op, ty, pos, aft, g⟩ := o
 dsimp only at h
 unfold pev at h
 split at h
 · have := hE.eval h; simp [execOp, this]
 · have := hE.eval h; simp [execOp, this]
 · split at h
   · rename_i hc; have h1 := hE.eval hc; have h2 := hE.eval h; simp [execOp, h1, h2, asBool]
   · rename_i hc; have h1 := hE.eval hc; have h2 := hE.eval h; simp [execOp, h1, h2, asBool]
   · cases h
 · split at h
   · rename_i va vb hx hy
     have h1 := hE.eval hx; have h2 := hE.eval hy
     rename_i op' t x y yt _ _
     have := pbin_run h (P := P) (w := w) t x y
     simp only [execOp, h1, h2]
     rw [Sem.run_bind, this]; rfl
   · cases h
 · split at h
   · rename_i hx; cases h; have h1 := hE.eval hx; simp [execOp, h1, Op.unary]
   · cases h
 · split at h
   · rename_i hx; cases h; have h1 := hE.eval hx; simp [execOp, h1, Op.unary, Op.intArith]
   · cases h
 · split at h
   · rename_i hx; have h1 := hE.eval hx; simp [execOp, h1, Instr.extract, h]
   · cases h
 · split at h
   · rename_i hx; cases h; have h1 := hE.eval hx; simp [execOp, h1]
   · cases h
 · split at h
   · rename_i fs b o hs hx
     split at h
     · rename_i y hf
       cases h
       obtain ⟨FS, F, h1, h2, h3, h4, h5, h6⟩ := st_field hT hs hf
       have h7 := hE.eval hx
       simp only [execOp, h7, Instr.fieldAt, Instr.sureAddr, fieldPlace, Sem.run_bind, run_underlying h1, Result.andThen_ok, h2, Sem.run_pure, run_ty h4, if_neg h6]
       rw [h3, Addr.add_lit]
     · cases h
   · cases h
 · split at h
   · rename_i fs cs hs hx
     split at h
     · rename_i y hf
       obtain ⟨FS, F, h1, h2, h3, h4, h5, h6⟩ := st_field hT hs hf
       have h7 := hE.eval hx
       simp only [execOp, h7, Instr.field, Sem.run_bind, run_underlying h1, Result.andThen_ok, h2, asAgg, Sem.run_pure, part, run_agg h5, run_ty h4]
       cases hb : y.2.2 with
       | true =>
        rw [hb] at h; cases h
        simp only [if_true, Sem.run_bind, run_ty h4, Result.andThen_ok, Sem.run_pure, h3]
        have e : cs.extract y.1 (y.1 + y.2.1) = ((cs.toList.drop y.1).take y.2.1).toArray := by
         apply Array.ext'
         rw [Array.toList_extract, List.extract_eq_take_drop]
         simp
        rw [e]
       | false =>
        rw [hb] at h
        simp only [cond_false] at h
        have h' : cs[F.offset]? = some v := by rw [h3]; simpa using h
        simp [h']
     · cases h
   · cases h
 · split at h
   · rename_i k1 k k2 m hk1 hk hx
     cases h
     have hu1 := hT.ik _ (lst_mem hk1)
     have hu := hT.ik _ (lst_mem hk)
     have h7 := hE.eval hx
     simp [execOp, h7, convert, run_underlying hu1, run_underlying hu, Conv.intToInt]
   · cases h
 · have := pcall_run hT hE h ty w
   simpa [execOp] using this
 · cases h
def gd (ops : Array Oper) (e : EL) (g : Option (Nat × Bool)) : Option Bool :=
 match g with
 | none => some true
 | some (j, want) => match ops.toList[j]? with
  | some o => match o.dst with
   | some d => match lk e d with
    | some (.bool b) => some (bif want then b else !b)
    | some (.tuple _) => some false
    | _ => none
   | none => none
  | none => none
theorem gd_wanted {ops : Array Oper} {a : Act} {n : Nat} {e : EL} (hE : Env a n e) {o : Oper} {b : Bool} (h : gd ops e o.guard = some b) : Region.wanted o (yielded ops a.tmps) = b := by
 unfold gd at h
 unfold Region.wanted
 split at h
 · rename_i hg; rw [hg]; simpa using h
 · rename_i j want hg
   rw [hg]
   dsimp only
   split at h
   · rename_i o' ho
     split at h
     · rename_i d hd
       have ho' : ops[j]? = some o' := by simpa using ho
       split at h
       · rename_i b' hb
         have := hE.get _ _ hb
         simp only [Option.some.injEq] at h
         subst h
         simp only [yielded, ho', Option.bind_some, hd, this]
         cases want <;> cases b' <;> rfl
       · rename_i vs hb
         have := hE.get _ _ hb
         simp only [Option.some.injEq] at h
         subst h
         simp only [yielded, ho', Option.bind_some, hd, this]
         cases want <;> rfl
       · cases h
     · cases h
   · cases h
def runP (T : Tab) (n : Nat) (ops : Array Oper) : Nat → EL → List Oper → Option (EL × List Oper)
 | 0, e, l => some (e, l)
 | _ + 1, _, [] => none
 | m + 1, e, o :: l => match gd ops e o.guard with
  | some true => match pev T e o.op with
   | some v => match o.dst with
    | some d => bif Nat.blt d n then runP T n ops m ((d, v) :: e) l else none
    | none => none
   | none => none
  | some false => match o.dst with
   | some d => bif Nat.blt d n then runP T n ops m ((d, undef) :: e) l else none
   | none => runP T n ops m e l
  | none => none
theorem wpList_do {P : Program} {ops : Array Oper} {Q : Exit → Act → World → Prop} {a : Act} {w : World} {rest : List Oper} {o : Oper} (hg : Region.wanted o (yielded ops a.tmps) = true)
 (h : o.wp P a w (wpList P ops Q rest) Q) : wpList P ops Q (o :: rest) a w := by
 unfold wpList; rw [if_pos hg]; exact .inl h
theorem wpList_no {P : Program} {ops : Array Oper} {Q : Exit → Act → World → Prop} {a : Act} {w : World} {rest : List Oper} {o : Oper} (hg : Region.wanted o (yielded ops a.tmps) = false)
 (h : wpList P ops Q rest (a.put o.dst undef) w) : wpList P ops Q (o :: rest) a w := by
 unfold wpList; rw [if_neg (by simp [hg])]; exact h
theorem wp_val {P : Program} {Q : Exit → Act → World → Prop} {K : Act → World → Prop} {a : Act} {w w' : World} {o : Oper} {v : Value} (h : (execOp a.eval o).run P w = .ok (.value v) w') (k : K (a.put o.dst v) w') : o.wp P a w K Q := by
 unfold Oper.wp; rw [h]; exact k
theorem wp_skp {P : Program} {Q : Exit → Act → World → Prop} {K : Act → World → Prop} {a : Act} {w w' : World} {o : Oper} (h : (execOp a.eval o).run P w = .ok .skip w') (k : K (a.put o.dst undef) w') : o.wp P a w K Q := by
 unfold Oper.wp; rw [h]; exact k
theorem run {T : Tab} {P : Program} (hT : T.Ok P) {n : Nat} {ops : Array Oper} {Q : Exit → Act → World → Prop} {w : World} (m : Nat) : ∀ {e e' : EL} {l l' : List Oper} {a : Act}, Env a n e → runP T n ops m e l = some (e', l') →
 (∀ a', Env a' n e' → wpList P ops Q l' a' w) → wpList P ops Q l a w := by
 induction m with
 | zero => intro e e' l l' a hE h k; simp [runP] at h; obtain ⟨rfl, rfl⟩ := h; exact k a hE
 | succ m ih =>
  intro e e' l l' a hE h k
  cases l with
  | nil => simp [runP] at h
  | cons o l =>
   unfold runP at h
   split at h
   · rename_i hg
     split at h
     · rename_i v hv
       split at h
       · rename_i d hd
         cases hb : Nat.blt d n with
         | false => rw [hb] at h; cases h
         | true =>
          rw [hb] at h
          refine wpList_do (gd_wanted hE hg) (wp_val (pev_run hT hE hv w) ?_)
          rw [hd]
          exact ih (hE.put hb v) h k
       · cases h
     · cases h
   · rename_i hg
     refine wpList_no (gd_wanted hE hg) ?_
     split at h
     · rename_i d hd
       cases hb : Nat.blt d n with
       | false => rw [hb] at h; cases h
       | true =>
        rw [hb] at h
        rw [hd]
        exact ih (hE.put hb _) h k
     · rename_i hd
       rw [hd]
       exact ih hE h k
   · cases h
def chkSt (P : Program) (x : Nat × List (Nat × Nat × Bool)) : Bool :=
 match P.underlying x.1 with
 | some (.struct fs) => decide (fs.toList.map (fun f => (f.offset, tySize P f.type, tyAgg P f.type)) = x.2.map (fun y => (y.1, some y.2.1, some y.2.2))) && x.2.all fun y => decide (y.2.1 ≠ 0)
 | _ => false
def chkSl (P : Program) (x : Nat × Nat × Nat × Bool) : Bool :=
 match P.underlying x.1 with
 | some (.slice e) => Nat.beq e x.2.1 && decide (tySize P x.2.1 = some x.2.2.1) && decide (tyAgg P x.2.1 = some x.2.2.2)
 | _ => false
def chkIk (P : Program) (x : Nat × IntKind) : Bool :=
 match P.underlying x.1 with
 | some (.int k) => decide (k = x.2)
 | _ => false
def chkLt (P : Program) (x : Nat) : Bool :=
 match P.underlying x with
 | some .string => true
 | _ => false
theorem Tab.ok_of {T : Tab} {P : Program} (h1 : T.st.all (chkSt P) = true) (h2 : (T.ty.all fun x => decide (tySize P x.1 = some x.2.1) && decide (tyAgg P x.1 = some x.2.2)) = true) (h3 : T.sl.all (chkSl P) = true)
 (h4 : T.ik.all (chkIk P) = true) (h5 : T.lt.all (chkLt P) = true) (h6 : ∀ x, x ∈ T.xs → IdX P x) : T.Ok P := by
 rw [List.all_eq_true] at h1 h2 h3 h4 h5
 refine ⟨fun x hx => ?_, fun x hx => ?_, fun x hx => ?_, fun x hx => ?_, fun x hx => ?_, h6⟩
 · have := h1 x hx
   unfold chkSt at this
   split at this
   · rename_i fs hu
     simp only [Bool.and_eq_true, decide_eq_true_eq, List.all_eq_true] at this
     exact ⟨fs, hu, this.1, this.2⟩
   · cases this
 · have := h2 x hx
   simpa using this
 · have := h3 x hx
   unfold chkSl at this
   split at this
   · rename_i e hu
     simp only [Bool.and_eq_true, decide_eq_true_eq, Nat.beq_eq_true_eq] at this
     rw [hu, Nat.eq_of_beq_eq_true this.1.1]
     exact ⟨rfl, this.1.2, this.2⟩
   · cases this
 · have := h4 x hx
   unfold chkIk at this
   split at this
   · rename_i k hu; rw [hu]; simpa using this
   · cases this
 · have := h5 x hx
   unfold chkLt at this
   split at this
   · assumption
   · cases this
section
variable {P : Program} {ops : Array Oper} {Q Q' : Exit → Act → World → Prop} {K M : Act → World → Prop} {a : Act} {w : World} {x y : Code}
theorem c_reg {id : Nat} (h : wpList P ops Q ops.toList a w) : (Code.region id ops false).wp P Q a w := wp_region_list h
theorem c_end (h : Q .normal a w) : wpList P ops Q [] a w := h
theorem c_seq (h : x.wp P (Exit.then (fun a w => y.wp P Q a w) Q) a w) : (Code.seq x y).wp P Q a w := wp_seq h
theorem c_true {c : Operand} {n : Nat} {e : EL} (hE : Env a n e) (hc : ev e c = some (.bool true)) (h : x.wp P Q a w) : (Code.cond c x y).wp P Q a w := wp_cond_true (hE.eval hc) h
theorem c_false {c : Operand} {n : Nat} {e : EL} (hE : Env a n e) (hc : ev e c = some (.bool false)) (h : y.wp P Q a w) : (Code.cond c x y).wp P Q a w := wp_cond_false (hE.eval hc) h
theorem c_cut (M : Act → World → Prop) (h : x.wp P (Exit.then M Q) a w) (k : ∀ a w, M a w → Q .normal a w) : x.wp P Q a w := by
 refine wp_mono h fun e a w q => ?_
 cases e <;> first | exact k _ _ q | exact q
theorem c_if {c : Operand} {n : Nat} {e : EL} {b : Bool} (hE : Env a n e) (hc : ev e c = some (.bool b)) (h1 : b = true → x.wp P Q a w) (h2 : b = false → y.wp P Q a w) : (Code.cond c x y).wp P Q a w := wp_cond_split (hE.eval hc) h1 h2
theorem c_skip (h : Q .normal a w) : Code.skip.wp P Q a w := wp_skip h
theorem c_exit {i : Nat} (h : Q (.exit i) a w) : (Code.exit i).wp P Q a w := wp_exit h
theorem c_block {i : Nat} (h : x.wp P (Exit.inBlock i Q) a w) : (Code.block i x).wp P Q a w := wp_block h
theorem xT (h : K a w) : Exit.then K Q .normal a w := h
theorem xTe {i : Nat} (h : Q (.exit i) a w) : Exit.then K Q (.exit i) a w := h
theorem xTr (h : Q .ret a w) : Exit.then K Q .ret a w := h
theorem xB {i : Nat} (h : Q .normal a w) : Exit.inBlock i Q .normal a w := h
theorem xBr {i : Nat} (h : Q .ret a w) : Exit.inBlock i Q .ret a w := h
theorem xBh {i : Nat} (h : Q .normal a w) : Exit.inBlock i Q (.exit i) a w := by simp only [Exit.inBlock, if_true]; exact h
theorem xBm {i j : Nat} (hne : Nat.beq j i = false) (h : Q (.exit j) a w) : Exit.inBlock i Q (.exit j) a w := by
 have : j ≠ i := fun e => by subst e; simp at hne
 simp only [Exit.inBlock, if_neg this]; exact h
theorem Env.setI {n : Nat} {e : EL} (hE : Env a n e) {t : Nat} {k : IntKind} {b c : Int} (ht : lk e t = some (.int k b)) (hb : b = c) : Env a n ((t, .int k c) :: e) := by
 subst hb
 refine ⟨hE.defers, hE.size, fun u v hu => ?_⟩
 simp only [lk] at hu
 by_cases h : t = u
 · subst h; simp at hu; subst hu; exact hE.get _ _ ht
 · rw [nbeq_ne h] at hu; exact hE.get _ _ hu
theorem Env.tr {n : Nat} {e : EL} (hE : Env a n e) {t : Nat} {b c : Bool} (ht : lk e t = some (.bool b)) (hb : b = c) : Env a n ((t, .bool c) :: e) := by
 subst hb
 refine ⟨hE.defers, hE.size, fun u v hu => ?_⟩
 simp only [lk] at hu
 by_cases h : t = u
 · subst h; simp at hu; subst hu; exact hE.get _ _ ht
 · rw [nbeq_ne h] at hu; exact hE.get _ _ hu
end
end Go.Proofs.YtknhbphhdfknaaaGreatDoor
