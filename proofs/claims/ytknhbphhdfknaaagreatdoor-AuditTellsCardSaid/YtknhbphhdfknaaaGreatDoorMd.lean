import Derived.Test.YtknhbphhdfknaaaGreatDoorMs
import Derived.Test.YtknhbphhdfknaaaGreatDoorMr
set_option linter.unusedVariables false
set_option linter.unusedSimpArgs false
namespace Go.Proofs.YtknhbphhdfknaaaGreatDoor
open Go.RowKit
noncomputable def gdA (ops : Array Oper) (E : Trie AV) (g : Option (Nat × Bool)) : Option Bool :=
 match g with
 | none => some true
 | some (j, want) => match ops.toList[j]? with
  | some o => match o.dst with
   | some d => match E.get d with
    | some (.dat (.bool b)) => some (bif want then b else !b)
    | some (.tup _) => some false
    | some (.dat (.tuple _)) => some false
    | _ => none
   | none => none
  | none => none
theorem gd_of {ops : Array Oper} {E : Trie AV} {e : EL} {ps : List Pl} (h : ES E e ps) {g : Option (Nat × Bool)} {b : Bool} (hg : gdA ops E g = some b) : gd ops e g = some b := by
 unfold gdA at hg
 unfold gd
 split at hg
 · exact hg
 · dsimp only
   split at hg
   · rename_i o ho
     rw [ho]
     dsimp only
     split at hg
     · rename_i d hd
       rw [hd]
       dsimp only
       split at hg
       · rename_i hb
         obtain ⟨r, h1, h2⟩ := h _ _ hb; obtain rfl := h2.ofdat
         rw [h1]; exact hg
       · rename_i hb
         obtain ⟨r, h1, h2⟩ := h _ _ hb
         simp only [RV] at h2
         obtain ⟨rs, rfl, _⟩ := h2
         rw [h1]; exact hg
       · rename_i hb
         obtain ⟨r, h1, h2⟩ := h _ _ hb; obtain rfl := h2.ofdat
         rw [h1]; exact hg
       · cases hg
     · cases hg
   · cases hg
noncomputable def calI (P : Program) (t : Nat) (v : AV) (vs : List AV) : Option Nat → Option (Nat × List AV)
 | some g => some (g, v :: vs)
 | none => none
noncomputable def calleeA (P : Program) (E : Trie AV) : Op → Option (Nat × List AV)
 | .call ⟨.value x, ⟨args⟩, _⟩ => match evA E x, evsA E args with
  | some (.fn g cap), some vs => some (g, vs ++ cap)
  | _, _ => none
 | .call ⟨.invoke x name, ⟨args⟩, _⟩ => match evA E x, evsA E args with
  | some (.ifc t [v]), some vs => calI P t v vs (mthA P t name (P.info? t))
  | _, _ => none
 | _ => none
noncomputable def argsA : Nat → List AV → Trie AV
 | _, [] => .leaf
 | i, v :: l => Trie.set 40 (argsA (i + 1) l) i v
theorem ES.args {ps : List Pl} : ∀ {vs : List AV} {rs : List Value} (i : Nat), RVs ps vs rs → ES (argsA i vs) (enum i rs) ps
 | [], rs, i, h => fun t v ht => by simp [argsA, Trie.get_leaf] at ht
 | v :: l, rs, i, h => by
  simp only [RVs] at h
  obtain ⟨r, rs', rfl, h1, h2⟩ := h
  exact (ES.args (i + 1) h2).put h1
noncomputable def resA (T : Tab) (E : Trie AV) (H : Trie AO) : List ResultVar → Option (List AV)
 | [] => some []
 | .tmp t :: l => match E.get t, resA T E H l with
  | some v, some vs => some (v :: vs)
  | _, _ => none
 | .cell x t :: l => match E.get x, lst T.ty t, resA T E H l with
  | some (.ptr i o), some (s, agg), some vs => match H.get i with
   | some (.blk _ c) => match ldvA agg c o s with
    | some v => some (v :: vs)
    | none => none
   | _ => none
  | _, _, _ => none
noncomputable def outA : List AV → AV
 | [v] => v
 | vs => .tup vs
theorem res_of {T : Tab} {E : Trie AV} {e : EL} {H : Trie AO} {sz : Nat} {L : List Rs} (h : ES E e (L.map Rs.pl)) (hH : HS H sz L) : ∀ {l : List ResultVar} {vs : List AV}, resA T E H l = some vs → ∃ rs, ResIs T e L l rs ∧ RVs (L.map Rs.pl) vs rs
 | [], vs, hr => by simp only [resA, Option.some.injEq] at hr; subst hr; exact ⟨[], .nil, RVs.nil⟩
 | .tmp t :: l, vs, hr => by
  simp only [resA] at hr
  split at hr
  · rename_i v vs' h1 h2
    cases hr
    obtain ⟨r, h3, h4⟩ := h _ _ h1
    obtain ⟨rs, h5, h6⟩ := res_of h hH h2
    exact ⟨r :: rs, .tmp h3 h5, RVs.cons h4 h6⟩
  · cases hr
 | .cell x t :: l, vs, hr => by
  simp only [resA] at hr
  split at hr
  · rename_i i o s agg vs' h1 h2 h3
    split at hr
    · rename_i T' c hc
      split at hr
      · rename_i v hv
        cases hr
        obtain ⟨r, h4, h5⟩ := h _ _ h1
        obtain ⟨u, k1, k2⟩ := hH.obj _ _ hc
        simp only [RV] at h5
        obtain ⟨b, h6, rfl⟩ := h5
        cases u <;> simp only [RO] at k2
        rename_i b' cs T2
        obtain ⟨rfl, k3⟩ := k2
        have : b' = b := by simpa [k1, Rs.pl] using h6
        subst this
        obtain ⟨q, h7, h8⟩ := k3.ldv hv
        obtain ⟨rs, h9, h10⟩ := res_of h hH h3
        exact ⟨q :: rs, .cell i h4 k1 h2 h7 h9, RVs.cons h8 h10⟩
      · cases hr
    · cases hr
  · cases hr
theorem out_of {ps : List Pl} : ∀ {vs : List AV} {rs : List Value}, RVs ps vs rs → RV ps (outA vs) (outV rs)
 | [], rs, h => by simp only [RVs] at h; subst h; simp only [outA, outV, RV]; exact ⟨[], rfl, RVs.nil⟩
 | [v], rs, h => by simp only [RVs] at h; obtain ⟨r, rs', rfl, h1, rfl⟩ := h; exact h1
 | v :: u :: l, rs, h => by
  have h' := h
  simp only [RVs] at h
  obtain ⟨r, rs', rfl, h1, q, qs, rfl, h2, h3⟩ := h
  simp only [outA, outV, RV]
  exact ⟨_, rfl, h'⟩
structure Fin where
 E : Trie AV
 H : Trie AO
 sz : Nat
 wr : List Nat
 v : AV
inductive Tk where
 | code (c : Code)
 | rounds (c : Code)
 | again (l : Nat) (c r : Code)
 | op (all : Array Oper) (o : Oper)
 | ops (all : Array Oper) (l : List Oper)
 | mix (all : Array Oper) (is : List Nat) (cl : Bool) (o : Ord)
 | call (g : Nat) (vs : List AV)
noncomputable def joinF (wr : List Nat) : Option (Exit × Fin) → Option (Exit × Fin)
 | some (x, F) => some (x, { F with wr := wr ++ F.wr })
 | none => none
noncomputable def preA (T : Tab) (P : Program) (all : Array Oper) (H : Trie AO) : Ord → Trie AV → List Nat
 | .step j c o, E => match all.toList[j]? with
  | some op => match op.dst with
   | some d => match c with
    | 0 => match pevF op.op T P E H with
     | some v => preA T P all H o (Trie.set 40 E d v)
     | none => preA T P all H o E
    | 1 => match rdId E op.op with
     | some i => match rdF op.op T P E H with
      | some v => i :: preA T P all H o (Trie.set 40 E d v)
      | none => i :: preA T P all H o E
     | none => preA T P all H o E
    | _ => preA T P all H o E
   | none => preA T P all H o E
  | none => preA T P all H o E
 | _, _ => []
structure Kn where
 n : Nat
 os : List (Nat × AO)
 v : AV
abbrev KTab := Nat → List AV → Trie AO → Option (List Nat × Kn)
noncomputable def shP (σ : List Nat) (b : Nat) : Nat → Nat := List.rec (motive := fun _ => Nat → Nat) (fun i => b + i) (fun p _ ih i => Nat.rec (motive := fun _ => Nat) p (fun j _ => ih j) i) σ
noncomputable def shV (f : Nat → Nat) (v : AV) : AV := AV.rec (motive_1 := fun _ => AV) (motive_2 := fun _ => List AV) (fun v => .dat v) (fun i o => .ptr (f i) o) (fun i o => .pel (f i) o) (fun i lo n sz => .sl (f i) lo n sz) (fun i => .mp (f i)) (fun _ l => .agg l) (fun _ l => .tup l) (fun f _ l => .fn f l) (fun t _ l => .ifc t l) [] (fun _ _ v l => v :: l) v
noncomputable def shO (f : Nat → Nat) : AO → AO
 | .blk T l => .blk T (l.map (shV f))
 | .row te sz n l => .row te sz n (l.map (shV f))
 | .mp kvs => .mp kvs
 | .gone => .gone
noncomputable def addO (b : Nat) (f : Nat → Nat) (H : Trie AO) : List (Nat × AO) → Trie AO
 | [] => H
 | (i, o) :: l => Trie.set 40 (addO b f H l) (b + i) (shO f o)
abbrev OTab := Nat → Nat → Option (List Nat × Ord)
noncomputable def scLab : Code → Option Nat
 | .label l => some l
 | .seq a b => match scLab a with
  | some l => some l
  | none => scLab b
 | _ => none
abbrev R4 := Option (Exit × Fin)
abbrev G4 := Tk → Nat → Nat → Trie AV → Trie AO → Nat → R4
noncomputable def fin0 (x : Exit) (E : Trie AV) (H : Trie AO) (sz : Nat) : R4 := some (x, ⟨E, H, sz, [], .tup []⟩)
noncomputable def gSeq (rec : G4) (b : Code) (f n : Nat) : R4 → R4
 | some (.normal, F) => joinF F.wr (rec (.code b) f n F.E F.H F.sz)
 | r => r
noncomputable def gCond (rec : G4) (a b : Code) (f n : Nat) (E : Trie AV) (H : Trie AO) (sz : Nat) : Option AV → R4
 | some (.dat (.bool true)) => rec (.code a) f n E H sz
 | some (.dat (.bool false)) => rec (.code b) f n E H sz
 | _ => none
noncomputable def gBlock (i : Nat) : R4 → R4
 | some (.exit j, F) => some (bif Nat.beq j i then .normal else .exit j, F)
 | r => r
noncomputable def gNorm : R4 → R4
 | some (_, F) => some (.normal, F)
 | none => none
noncomputable def allLt (sz : Nat) : List Nat → Bool
 | [] => true
 | x :: l => bif Nat.blt x sz then allLt sz l else false
noncomputable def gReg2 (rec : G4) (ops : Array Oper) (o : Ord) (is : List Nat) (f n : Nat) (E : Trie AV) (H : Trie AO) (sz : Nat) : R4 := bif allLt sz is then gNorm (rec (.mix ops is true o) f n E H sz) else none
noncomputable def gReg1 (T : Tab) (P : Program) (rec : G4) (ops : Array Oper) (f n : Nat) (E : Trie AV) (H : Trie AO) (sz : Nat) : Option (List Nat × Ord) → R4
 | some (ds, o) => bif (noSelL ops.toList && Nat.beq o.len ops.toList.length && mixF ops (mkA ops.toList 0) ops.toList ds o false 0) then gReg2 rec ops o (preA T P ops H o E) f n E H sz else none
 | none => none
noncomputable def gReg (T : Tab) (P : Program) (OT : OTab) (rec : G4) (id : Nat) (ops : Array Oper) (f n : Nat) (E : Trie AV) (H : Trie AO) (sz : Nat) : Bool → R4
 | false => gNorm (rec (.ops ops ops.toList) f n E H sz)
 | true => gReg1 T P rec ops f n E H sz (OT f id)
noncomputable def gJump (rec : G4) (l : Nat) (c r : Code) (f n : Nat) : R4 → R4
 | some (.goto l', F) => bif Nat.beq l' l then joinF F.wr (rec (.again l c r) f n F.E F.H F.sz) else none
 | x => x
noncomputable def gSc1 (rec : G4) (l : Nat) (c : Code) (f n : Nat) (E : Trie AV) (H : Trie AO) (sz : Nat) : Option Code → R4
 | some r => gJump rec l c r f n (rec (.code c) f n E H sz)
 | none => none
noncomputable def gSc (rec : G4) (c : Code) (f n : Nat) (E : Trie AV) (H : Trie AO) (sz : Nat) : Option Nat → R4
 | some l => gSc1 rec l c f n E H sz (findLabel c l)
 | none => none
noncomputable def gCode (T : Tab) (P : Program) (OT : OTab) (rec : G4) (f n : Nat) (E : Trie AV) (H : Trie AO) (sz : Nat) : Code → R4
 | .skip => fin0 .normal E H sz
 | .label _ => fin0 .normal E H sz
 | .exit i => fin0 (.exit i) E H sz
 | .goto l => fin0 (.goto l) E H sz
 | .ret => fin0 .ret E H sz
 | .seq a b => gSeq rec b f n (rec (.code a) f n E H sz)
 | .cond c a b => gCond rec a b f n E H sz (evA E c)
 | .block i c => gBlock i (rec (.code c) f n E H sz)
 | .loop c => rec (.rounds c) f n E H sz
 | .region id ops d => gReg T P OT rec id ops f n E H sz d
 | .scope c => gSc rec c f n E H sz (scLab c)
 | _ => none
noncomputable def gRounds (rec : G4) (c : Code) (f n : Nat) : R4 → R4
 | some (.normal, F) => joinF F.wr (rec (.rounds c) f n F.E F.H F.sz)
 | r => r
noncomputable def gOp3 (d : Nat) (E : Trie AV) : R4 → R4
 | some (_, F) => some (.normal, ⟨Trie.set 40 E d F.v, F.H, F.sz, F.wr, .tup []⟩)
 | none => none
noncomputable def gOp2 (rec : G4) (d f n : Nat) (E : Trie AV) (H : Trie AO) (sz : Nat) : Option (Nat × List AV) → R4
 | some (g, vs) => gOp3 d E (rec (.call g vs) f n E H sz)
 | none => none
noncomputable def gEf (P : Program) (rec : G4) (op : Op) (d f n : Nat) (E : Trie AV) (H : Trie AO) (sz : Nat) : Option Out → R4
 | some ⟨some v, H', sz', wr⟩ => some (.normal, ⟨Trie.set 40 E d v, H', sz', wr, .tup []⟩)
 | _ => gOp2 rec d f n E H sz (calleeA P E op)
noncomputable def gRd (T : Tab) (P : Program) (rec : G4) (op : Op) (d f n : Nat) (E : Trie AV) (H : Trie AO) (sz : Nat) : Option AV → R4
 | some v => fin0 .normal (Trie.set 40 E d v) H sz
 | none => gEf P rec op d f n E H sz (efF op T P E H sz)
noncomputable def gPe (T : Tab) (P : Program) (rec : G4) (op : Op) (d f n : Nat) (E : Trie AV) (H : Trie AO) (sz : Nat) : Option AV → R4
 | some v => fin0 .normal (Trie.set 40 E d v) H sz
 | none => gRd T P rec op d f n E H sz (rdF op T P E H)
noncomputable def gWr3 (E : Trie AV) : R4 → R4
 | some (_, F) => some (.normal, ⟨E, F.H, F.sz, F.wr, .tup []⟩)
 | none => none
noncomputable def gWr2 (rec : G4) (f n : Nat) (E : Trie AV) (H : Trie AO) (sz : Nat) : Option (Nat × List AV) → R4
 | some (g, vs) => gWr3 E (rec (.call g vs) f n E H sz)
 | none => none
noncomputable def gWr (P : Program) (rec : G4) (op : Op) (f n : Nat) (E : Trie AV) (H : Trie AO) (sz : Nat) : Option Out → R4
 | some ⟨none, H', sz', wr⟩ => some (.normal, ⟨E, H', sz', wr, .tup []⟩)
 | _ => gWr2 rec f n E H sz (calleeA P E op)
noncomputable def gOp (T : Tab) (P : Program) (rec : G4) (op : Op) (f n : Nat) (E : Trie AV) (H : Trie AO) (sz : Nat) : Option Nat → R4
 | some d => bif Nat.blt d n then gPe T P rec op d f n E H sz (pevF op T P E H) else none
 | none => gWr P rec op f n E H sz (wrF op T P E H sz)
noncomputable def gOps2 (rec : G4) (all : Array Oper) (r : List Oper) (f n : Nat) : R4 → R4
 | some (_, F) => joinF F.wr (rec (.ops all r) f n F.E F.H F.sz)
 | none => none
noncomputable def gOps3 (rec : G4) (all : Array Oper) (r : List Oper) (f n : Nat) (E : Trie AV) (H : Trie AO) (sz : Nat) : Option Nat → R4
 | some d => bif Nat.blt d n then rec (.ops all r) f n (Trie.set 40 E d (.dat undef)) H sz else none
 | none => rec (.ops all r) f n E H sz
noncomputable def gOps1 (rec : G4) (all : Array Oper) (o : Oper) (r : List Oper) (f n : Nat) (E : Trie AV) (H : Trie AO) (sz : Nat) : Option Bool → R4
 | some true => gOps2 rec all r f n (rec (.op all o) f n E H sz)
 | some false => gOps3 rec all r f n E H sz o.dst
 | none => none
noncomputable def gOps0 (rec : G4) (all : Array Oper) (f n : Nat) (H : Trie AO) (sz : Nat) : Trie AV × List Oper → R4
 | (E, []) => fin0 .normal E H sz
 | (E, o :: r) => gOps1 rec all o r f n E H sz (gdA all E o.guard)
noncomputable def gdF (all : Array Oper) (E : Trie AV) (g : Option (Nat × Bool)) : Option Bool := Option.rec (motive := fun _ => Option Bool) (some true) (fun p => gdA all E (some p)) g
theorem gdF_eq (all : Array Oper) (E : Trie AV) (g : Option (Nat × Bool)) : gdF all E g = gdA all E g := by cases g <;> rfl
noncomputable def sB3 (E : Trie AV) (d : Nat) (v : Option AV) : Option (Trie AV) := Option.rec (motive := fun _ => Option (Trie AV)) none (fun v => some (Trie.set 40 E d v)) v
noncomputable def sB2 (o : Oper) (T : Tab) (P : Program) (H : Trie AO) (E : Trie AV) (d : Nat) (v : Option AV) : Option (Trie AV) := Option.rec (motive := fun _ => Option (Trie AV)) (sB3 E d (rdF o.op T P E H)) (fun v => some (Trie.set 40 E d v)) v
noncomputable def stepB (o : Oper) (T : Tab) (P : Program) (all : Array Oper) (n : Nat) (H : Trie AO) (E : Trie AV) : Option (Trie AV) :=
 Option.rec (motive := fun _ => Option (Trie AV)) none (fun b => Option.rec (motive := fun _ => Option (Trie AV)) (Bool.rec (motive := fun _ => Option (Trie AV)) (some E) none b)
  (fun d => Bool.rec (motive := fun _ => Option (Trie AV)) none (Bool.rec (motive := fun _ => Option (Trie AV)) (some (Trie.set 40 E d (.dat undef))) (sB2 o T P H E d (pevF o.op T P E H)) b) (Nat.blt d n)) o.dst) (gdF all E o.guard)
noncomputable def runB (l : List Oper) : Tab → Program → Array Oper → Nat → Trie AO → Trie AV → Trie AV × List Oper :=
 List.rec (motive := fun _ => Tab → Program → Array Oper → Nat → Trie AO → Trie AV → Trie AV × List Oper) (fun _ _ _ _ _ E => (E, []))
  (fun o r ih T P all n H E => Option.rec (motive := fun _ => Trie AV × List Oper) (E, o :: r) (fun E' => ih T P all n H E') (stepB o T P all n H E)) l
noncomputable def gOps (T : Tab) (P : Program) (rec : G4) (all : Array Oper) (f n : Nat) (E : Trie AV) (H : Trie AO) (sz : Nat) (l : List Oper) : R4 := gOps0 rec all f n H sz (runB l T P all n H E)
noncomputable def gM0v (rec : G4) (all : Array Oper) (is : List Nat) (cl : Bool) (o : Ord) (d f n : Nat) (E : Trie AV) (H : Trie AO) (sz : Nat) : Option AV → R4
 | some v => rec (.mix all is cl o) f n (Trie.set 40 E d v) H sz
 | none => none
noncomputable def gM0g (T : Tab) (P : Program) (rec : G4) (all : Array Oper) (is : List Nat) (cl : Bool) (o : Ord) (op : Op) (d f n : Nat) (E : Trie AV) (H : Trie AO) (sz : Nat) : Option Bool → R4
 | some true => gM0v rec all is cl o d f n E H sz (pevF op T P E H)
 | some false => rec (.mix all is cl o) f n (Trie.set 40 E d (.dat undef)) H sz
 | none => none
noncomputable def gM0d (T : Tab) (P : Program) (rec : G4) (all : Array Oper) (is : List Nat) (cl : Bool) (o : Ord) (op : Oper) (f n : Nat) (E : Trie AV) (H : Trie AO) (sz : Nat) : Option Nat → R4
 | some d => bif Nat.blt d n then gM0g T P rec all is cl o op.op d f n E H sz (gdA all E op.guard) else none
 | none => none
noncomputable def gM0 (T : Tab) (P : Program) (rec : G4) (all : Array Oper) (is : List Nat) (cl : Bool) (o : Ord) (f n : Nat) (E : Trie AV) (H : Trie AO) (sz : Nat) : Option Oper → R4
 | some op => gM0d T P rec all is cl o op f n E H sz op.dst
 | none => none
noncomputable def gM1i (T : Tab) (P : Program) (rec : G4) (all : Array Oper) (is : List Nat) (cl : Bool) (o : Ord) (op : Op) (d f n : Nat) (E : Trie AV) (H : Trie AO) (sz : Nat) : Option Nat → R4
 | some i => bif hasN is i then gM0v rec all is cl o d f n E H sz (rdF op T P E H) else none
 | none => gM0v rec all is cl o d f n E H sz (pevF op T P E H)
noncomputable def gM1g (T : Tab) (P : Program) (rec : G4) (all : Array Oper) (is : List Nat) (cl : Bool) (o : Ord) (op : Op) (d f n : Nat) (E : Trie AV) (H : Trie AO) (sz : Nat) : Option Bool → R4
 | some true => gM1i T P rec all is cl o op d f n E H sz (rdId E op)
 | some false => rec (.mix all is cl o) f n (Trie.set 40 E d (.dat undef)) H sz
 | none => none
noncomputable def gM1d (T : Tab) (P : Program) (rec : G4) (all : Array Oper) (is : List Nat) (cl : Bool) (o : Ord) (op : Oper) (f n : Nat) (E : Trie AV) (H : Trie AO) (sz : Nat) : Option Nat → R4
 | some d => bif Nat.blt d n && cl then gM1g T P rec all is cl o op.op d f n E H sz (gdA all E op.guard) else none
 | none => none
noncomputable def gM1 (T : Tab) (P : Program) (rec : G4) (all : Array Oper) (is : List Nat) (cl : Bool) (o : Ord) (f n : Nat) (E : Trie AV) (H : Trie AO) (sz : Nat) : Option Oper → R4
 | some op => gM1d T P rec all is cl o op f n E H sz op.dst
 | none => none
noncomputable def gM2r (rec : G4) (all : Array Oper) (is : List Nat) (cl : Bool) (c : Nat) (o : Ord) (f n : Nat) : R4 → R4
 | some (_, F) => bif (cl && F.wr.all (fun i => !hasN is i)) || !Nat.beq c 0 then joinF F.wr (rec (.mix all is (cl && F.wr.all (fun i => !hasN is i)) o) f n F.E F.H F.sz) else none
 | none => none
noncomputable def gM2u (rec : G4) (all : Array Oper) (is : List Nat) (cl : Bool) (c : Nat) (o : Ord) (f n : Nat) (E : Trie AV) (H : Trie AO) (sz : Nat) : Option Nat → R4
 | some d => bif Nat.blt d n && (cl || !Nat.beq c 0) then rec (.mix all is cl o) f n (Trie.set 40 E d (.dat undef)) H sz else none
 | none => bif cl || !Nat.beq c 0 then rec (.mix all is cl o) f n E H sz else none
noncomputable def gM2g (rec : G4) (all : Array Oper) (is : List Nat) (cl : Bool) (c : Nat) (o : Ord) (op : Oper) (f n : Nat) (E : Trie AV) (H : Trie AO) (sz : Nat) : Option Bool → R4
 | some true => gM2r rec all is cl c o f n (rec (.op all op) f n E H sz)
 | some false => gM2u rec all is cl c o f n E H sz op.dst
 | none => none
noncomputable def gM2 (rec : G4) (all : Array Oper) (is : List Nat) (cl : Bool) (c : Nat) (o : Ord) (f n : Nat) (E : Trie AV) (H : Trie AO) (sz : Nat) : Option Oper → R4
 | some op => gM2g rec all is cl c o op f n E H sz (gdA all E op.guard)
 | none => none
noncomputable def rngN (f : Nat) : Nat → List Nat := Nat.rec (motive := fun _ => Nat → List Nat) (fun _ => []) (fun _ ih j => j :: ih (j + 1)) f
noncomputable def orQ (sz0 : Nat) (τ : List Nat) (i i' : Nat) : Bool := Bool.rec (motive := fun _ => Bool) (eqP τ (i - sz0) i') (Nat.beq i i') (Nat.blt i sz0)
noncomputable def orP (sz0 : Nat) (τ : List Nat) (p : Nat) : Option Nat := Bool.rec (motive := fun _ => Option Nat) (nthN τ (p - sz0)) (some p) (Nat.blt p sz0)
noncomputable def orE2 (q : Nat → Nat → Bool) (t : Nat) (v : AV) (E : Trie AV) : Option AV → Trie AV
 | some u => Bool.rec (motive := fun _ => Trie AV) E (Trie.set 40 E t v) (eqA q v u)
 | none => E
noncomputable def orE1 (q : Nat → Nat → Bool) (t : Nat) (E : Trie AV) (u : Option AV) : Option AV → Trie AV
 | some v => orE2 q t v E u
 | none => E
noncomputable def orE (q : Nat → Nat → Bool) (E1 E2 : Trie AV) (n : Nat) : Trie AV := Nat.rec (motive := fun _ => Trie AV) .leaf (fun t E => orE1 q t E (E2.get t) (E1.get t)) n
noncomputable def orV3 (q : Nat → Nat → Bool) (o : AO) : Option AO → AO
 | some u => Bool.rec (motive := fun _ => AO) .gone o (eqO q o u)
 | none => .gone
noncomputable def orV2 (q : Nat → Nat → Bool) (H2 : Trie AO) (o : AO) : Option Nat → AO
 | some p' => orV3 q o (H2.get p')
 | none => .gone
noncomputable def orV (q : Nat → Nat → Bool) (H2 : Trie AO) (p' : Option Nat) : Option AO → AO
 | some o => orV2 q H2 o p'
 | none => .gone
noncomputable def oxO (q : Nat → Nat → Bool) (H1 H2 : Trie AO) (sz0 sz1 : Nat) (τ : List Nat) (H : Trie AO) (l : List Nat) : Trie AO := List.rec (motive := fun _ => Trie AO) H (fun p _ ih => Bool.rec (motive := fun _ => Trie AO) ih (Trie.set 40 ih p (orV q H2 (orP sz0 τ p) (H1.get p))) (Nat.blt p sz1)) l
noncomputable def allGe (sz : Nat) (l : List Nat) : Bool := List.rec (motive := fun _ => Bool) true (fun x _ ih => Bool.rec (motive := fun _ => Bool) false ih (Nat.ble sz x)) l
noncomputable def lenN (l : List Nat) : Nat := List.rec (motive := fun _ => Nat) 0 (fun _ _ n => Nat.succ n) l
noncomputable def gOr3 (n : Nat) (H : Trie AO) (sz0 : Nat) (F1 F2 : Fin) (τ : List Nat) : R4 :=
 bif (ndN τ && allGe sz0 τ && allLt F2.sz τ && Nat.beq F1.sz F2.sz && Nat.beq (sz0 + lenN τ) F1.sz) then some (.normal, ⟨orE (orQ sz0 τ) F1.E F2.E n, oxO (orQ sz0 τ) F1.H F2.H sz0 F1.sz τ H (F1.wr ++ F2.wr ++ rngN (F1.sz - sz0) sz0), F1.sz, F1.wr ++ F2.wr, .tup []⟩) else none
-- which places are meant (nothing is shown of this)
noncomputable def sE1 (S : List (Nat × Nat)) (u : Option AV) : Option AV → List (Nat × Nat)
 | some v => (match u with | some u => mV v u S | none => S)
 | none => S
noncomputable def sE (E1 E2 : Trie AV) (n : Nat) : List (Nat × Nat) := Nat.rec (motive := fun _ => List (Nat × Nat)) [] (fun t S => sE1 S (E2.get t) (E1.get t)) n
noncomputable def sO1 (H2 : Trie AO) (o : AO) (S : List (Nat × Nat)) : Option Nat → List (Nat × Nat)
 | some p' => mO S o (H2.get p')
 | none => S
noncomputable def sO2 (sz0 : Nat) (H2 : Trie AO) (S : List (Nat × Nat)) (p : Nat) : Option AO → List (Nat × Nat)
 | some o => sO1 H2 o S (Bool.rec (motive := fun _ => Option Nat) (lkN S p) (some p) (Nat.blt p sz0))
 | none => S
noncomputable def sO (sz0 : Nat) (H1 H2 : Trie AO) (l : List Nat) : List (Nat × Nat) → List (Nat × Nat) := List.rec (motive := fun _ => List (Nat × Nat) → List (Nat × Nat)) (fun S => S) (fun p _ ih S => ih (sO2 sz0 H2 S p (H1.get p))) l
noncomputable def hasV (S : List (Nat × Nat)) (p : Nat) : Bool := List.rec (motive := fun _ => Bool) false (fun x _ ih => Bool.rec (motive := fun _ => Bool) ih true (Nat.beq x.2 p)) S
noncomputable def lefts (S : List (Nat × Nat)) (l : List Nat) : List Nat := List.rec (motive := fun _ => List Nat) [] (fun p _ ih => Bool.rec (motive := fun _ => List Nat) (p :: ih) ih (hasV S p)) l
noncomputable def sgB (S : List (Nat × Nat)) (l : List Nat) : List Nat → List Nat := List.rec (motive := fun _ => List Nat → List Nat) (fun _ => []) (fun j _ ih u => Option.rec (motive := fun _ => List Nat) (List.rec (motive := fun _ => List Nat) (ih []) (fun p u' _ => p :: ih u') u) (fun p => p :: ih u) (lkN S j)) l
noncomputable def orT2 (sz0 : Nat) (F1 F2 : Fin) (S : List (Nat × Nat)) : List Nat := sgB S (rngN (F1.sz - sz0) sz0) (lefts S (rngN (F2.sz - sz0) sz0))
noncomputable def orT (n sz0 : Nat) (F1 F2 : Fin) (l : List Nat) : List Nat := orT2 sz0 F1 F2 (sO sz0 F1.H F2.H l (sO sz0 F1.H F2.H l (sO sz0 F1.H F2.H l (sE F1.E F2.E n))))
noncomputable def gOr2 (n : Nat) (H : Trie AO) (sz0 : Nat) (F1 : Fin) : R4 → R4
 | some (_, F2) => gOr3 n H sz0 F1 F2 (orT n sz0 F1 F2 (F1.wr ++ F2.wr ++ rngN (F1.sz - sz0) sz0))
 | none => none
noncomputable def gOr (n : Nat) (H : Trie AO) (sz0 : Nat) (r2 : R4) : R4 → R4
 | some (_, F1) => gOr2 n H sz0 F1 r2
 | none => none
noncomputable def gMix (T : Tab) (P : Program) (rec : G4) (all : Array Oper) (is : List Nat) (cl : Bool) (f n : Nat) (E : Trie AV) (H : Trie AO) (sz : Nat) : Ord → R4
 | .nil => fin0 .normal E H sz
 | .step j 0 o => gM0 T P rec all is cl o f n E H sz all.toList[j]?
 | .step j 1 o => gM1 T P rec all is cl o f n E H sz all.toList[j]?
 | .step j (c + 2) o => gM2 rec all is cl c o f n E H sz all.toList[j]?
 | .or k c l r => bif Nat.ble 2 c then gOr n H sz (rec (.mix all is cl r) f n E H sz) (rec (.mix all is cl (.step k c l)) f n E H sz) else none
noncomputable def gRes (F : Fin) : Option (List AV) → R4
 | some rs => some (.normal, ⟨.leaf, F.H, F.sz, F.wr, outA rs⟩)
 | none => none
noncomputable def gEnd (T : Tab) (l : List ResultVar) : R4 → R4
 | some (.ret, F) => gRes F (resA T F.E F.H l)
 | some (.normal, F) => gRes F (resA T F.E F.H l)
 | _ => none
noncomputable def gCall2 (T : Tab) (rec : G4) (fn : Func) (g : Nat) (vs : List AV) (H : Trie AO) (sz : Nat) : Option Code → R4
 | some c => bif !(fn.name == "runtime.NumGoroutine") && Nat.ble vs.length fn.ntmps then gEnd T fn.results.toList (rec (.code c) g fn.ntmps (argsA 0 vs) H sz) else none
 | none => none
noncomputable def gCall1 (T : Tab) (rec : G4) (g : Nat) (vs : List AV) (H : Trie AO) (sz : Nat) : Option Func → R4
 | some fn => gCall2 T rec fn g vs H sz fn.body
 | none => none
noncomputable def gCall (T : Tab) (P : Program) (rec : G4) (g : Nat) (vs : List AV) (H : Trie AO) (sz : Nat) (v : Option (List Nat × Kn)) : R4 := Option.rec (motive := fun _ => R4) (gCall1 T rec g vs H sz P.funcs[g]?) (fun x => some (.normal, ⟨.leaf, addO sz (shP x.1 sz) H x.2.os, sz + x.2.n, [], shV (shP x.1 sz) x.2.v⟩)) v
noncomputable def goF (T : Tab) (P : Program) (OT : OTab) (KT : KTab) (rec : G4) : G4 := fun t => Tk.rec (motive := fun _ => Nat → Nat → Trie AV → Trie AO → Nat → R4)
 (fun c f n E H sz => gCode T P OT rec f n E H sz c)
 (fun c f n E H sz => gRounds rec c f n (rec (.code c) f n E H sz))
 (fun l c r f n E H sz => gJump rec l c r f n (rec (.code r) f n E H sz))
 (fun all o f n E H sz => gOp T P rec o.op f n E H sz o.dst)
 (fun all l f n E H sz => gOps T P rec all f n E H sz l)
 (fun all is cl o f n E H sz => gMix T P rec all is cl f n E H sz o)
 (fun g vs f n E H sz => gCall T P rec g vs H sz (KT g vs H)) t
noncomputable def go (T : Tab) (P : Program) (OT : OTab) (KT : KTab) (k : Nat) : G4 := Nat.rec (motive := fun _ => G4) (fun _ _ _ _ _ _ => none) (fun _ rec => goF T P OT KT rec) k
theorem go_succ (T : Tab) (P : Program) (OT : OTab) (KT : KTab) (k : Nat) : go T P OT KT (k + 1) = goF T P OT KT (go T P OT KT k) := rfl
end Go.Proofs.YtknhbphhdfknaaaGreatDoor
