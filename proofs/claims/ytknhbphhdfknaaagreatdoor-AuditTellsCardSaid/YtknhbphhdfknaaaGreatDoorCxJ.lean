import Derived.Test.YtknhbphhdfknaaaGreatDoorCxI
set_option linter.unusedVariables false
set_option linter.unusedSimpArgs false
namespace Go.Proofs.YtknhbphhdfknaaaGreatDoor
open Go.RowKit
theorem get_map {P : Program} {w : World} {r : Nat} {es : Array MapEntry} {cl : Nat} (h : w.heap[r]? = some (.map es cl)) : (getObj r).run P w = .ok (.map es cl) w := by simp [getObj, Sem.run, h]
theorem set_map {P : Program} {w : World} {r : Nat} {es : Array MapEntry} {cl : Nat} (o : Obj) (h : w.heap[r]? = some (.map es cl)) : (setObj r o).run P w = .ok () { w with heap := w.heap.setIfInBounds r o } := by simp [setObj, Sem.run, h]
theorem ba_beq (a b : ByteArray) : (a == b) = decide (b = a) := by
 by_cases h : a = b
 · subst h
   show (a.data == a.data) = _
   simp
 · have h' : ¬ b = a := fun e => h e.symm
   rw [decide_eq_false h']
   show (a.data == b.data) = false
   rw [beq_eq_false_iff_ne]
   exact fun e => h (ByteArray.ext e)
structure KeyK (K : Type) [DecidableEq K] (fk : K → D) (kv : K → Value) (desc : TypeDesc) : Prop where
 rep : ∀ (G : GH) (k : K) (c : Value), Rep G (fk k) [c] ↔ c = kv k
 same : ∀ a b : K, Instr.sameNow desc (kv a) (kv b) = some (decide (b = a))
 bits : ∀ a : K, Instr.sameBits 10000 (kv a) (kv a) = true
 ok : ∀ (P : Program) (t : TypeId) (k : K) (e : Bool) (w : World), P.underlying t = some desc → (Instr.checkKey e 10000 t (kv k)).run P w = .ok () w
theorem key_str : KeyK ByteArray D.str Value.string .string where
 rep G k c := by simp [Rep]
 same a b := by simp only [Instr.sameNow, ba_beq]
 bits a := by simp [Instr.sameBits, ba_beq]
 ok P t k e w h := by
  rw [show (10000 : Nat) = 9999 + 1 from rfl]
  unfold Instr.checkKey
  simp only [Sem.run_bind, run_underlying h, Result.andThen_ok]
  rfl
theorem rep1_int {G : GH} {k : IntKind} {n : Int} {u : Value} : Rep G (.int k n) [u] ↔ u = .int k n := by simp [Rep]
def RM (G : GH) {K V : Type} (agg : Bool) (fk : K → D) (fv : V → D) (kvs : List (K × V)) (es : List MapEntry) : Prop := RepM G agg (kvs.flatMap fun p => [fk p.1, fv p.2]) es
section
variable {K V : Type} {agg : Bool} {fk : K → D} {fv : V → D} {kvs : List (K × V)} {es : List MapEntry} {G : GH}
theorem RM.nil : RM G agg fk fv [] [] := by simp [RM, RepM]
theorem RM.mono {G' : GH} (h : RM G agg fk fv kvs es) (hg : G.le G') : RM G' agg fk fv kvs es := RepM.mono hg _ h
theorem RM.cons {p : K × V} : RM G agg fk fv (p :: kvs) es ↔ ∃ e es', es = e :: es' ∧ Rep G (fk p.1) [e.key] ∧ (∃ c, Rep G (fv p.2) c ∧ (if agg then e.val = .agg ⟨c⟩ else c = [e.val])) ∧ RM G agg fk fv kvs es' := by
 unfold RM
 simp only [List.flatMap_cons, List.cons_append, List.nil_append, RepM]
theorem Mp.open {A : Option Nat} (h : Mp G A agg fk fv kvs) : ∃ m es cl, A = some m ∧ G m = some (.map es cl) ∧ RM G agg fk fv kvs es.toList := by
 unfold Mp D.kv at h
 simp only [Rep] at h
 obtain ⟨m, es, cl, h1, h2, h3⟩ := h
 simp at h1
 exact ⟨m, es, cl, h1, h2, h3⟩
theorem Mp.mk {m : Nat} {es : Array MapEntry} {cl : Nat} (h : RM G agg fk fv kvs es.toList) (hm : G m = some (.map es cl)) : Mp G (some m) agg fk fv kvs := by
 unfold Mp D.kv
 simp only [Rep]
 exact ⟨m, es, cl, rfl, hm, h⟩
variable [DecidableEq K] {kv : K → Value} {desc : TypeDesc}
theorem RM.find (hk : KeyK K fk kv desc) (k : K) : ∀ {kvs : List (K × V)} {es : List MapEntry} (i : Nat), RM G agg fk fv kvs es →
 (mget kvs k = none ∧ Instr.findNow desc (kv k) es i = some none) ∨ ∃ v c u j, mget kvs k = some v ∧ Rep G (fv v) c ∧ (if agg then u = Value.agg ⟨c⟩ else c = [u]) ∧ Instr.findNow desc (kv k) es i = some (some (i + j, u)) ∧ (es[j]?).map (·.key) = some (kv k) ∧
  ∀ (v' : V) (c' : List Value) (u' : Value), Rep G (fv v') c' → (if agg then u' = Value.agg ⟨c'⟩ else c' = [u']) → RM G agg fk fv (mput kvs k v') (es.modify j fun e => { e with key := kv k, val := u' })
 | [], es, i, h => by
  simp only [RM, List.flatMap_nil, RepM] at h
  subst h
  exact .inl ⟨rfl, rfl⟩
 | p :: kvs, es, i, h => by
  obtain ⟨e, es', rfl, h1, ⟨c, h2, h3⟩, h4⟩ := RM.cons.1 h
  have hke := (hk.rep G p.1 e.key).1 h1
  by_cases hp : p.1 = k
  · subst hp
    right
    refine ⟨p.2, c, e.val, 0, by simp [mget], h2, h3, ?_, by simp [hke], fun v' c' u' hr hu => ?_⟩
    · simp [Instr.findNow, hke, hk.same]
    · simp only [mput, if_true, List.modify_cons, if_pos]
      exact RM.cons.2 ⟨_, _, rfl, (hk.rep G _ _).2 rfl, ⟨c', hr, hu⟩, h4⟩
  · have hs : Instr.sameNow desc (kv k) e.key = some false := by rw [hke, hk.same]; simp [hp]
    rcases RM.find hk k (i + 1) h4 with ⟨g1, g2⟩ | ⟨v, c', u, j, g1, g2, g3, g4, g5, g6⟩
    · exact .inl ⟨by simp [mget, hp, g1], by simp [Instr.findNow, hs, g2]⟩
    · right
      refine ⟨v, c', u, j + 1, by simp [mget, hp, g1], g2, g3, ?_, by simpa using g5, fun v' c'' u' hr hu => ?_⟩
      · simp only [Instr.findNow, hs, g4]; rw [Nat.add_assoc, Nat.add_comm 1 j]
      · simp only [mput, if_neg hp, List.modify_succ_cons]
        exact RM.cons.2 ⟨e, _, rfl, h1, ⟨c, h2, h3⟩, g6 v' c'' u' hr hu⟩
theorem RM.push (hk : KeyK K fk kv desc) (k : K) (v : V) (c : List Value) (e : MapEntry) (he : e.key = kv k) (hr : Rep G (fv v) c) (hu : if agg then e.val = Value.agg ⟨c⟩ else c = [e.val]) : ∀ {kvs : List (K × V)} {es : List MapEntry}, RM G agg fk fv kvs es → mget kvs k = none → RM G agg fk fv (mput kvs k v) (es ++ [e])
 | [], es, h, _ => by
  simp only [RM, List.flatMap_nil, RepM] at h
  subst h
  exact RM.cons.2 ⟨e, [], rfl, (hk.rep G k e.key).2 he, ⟨c, hr, hu⟩, RM.nil⟩
 | p :: kvs, es, h, hm => by
  obtain ⟨e', es', rfl, h1, h2, h3⟩ := RM.cons.1 h
  by_cases hp : p.1 = k
  · simp [mget, hp] at hm
  · simp only [mget, hp, if_false] at hm
    simp only [mput, if_neg hp]
    exact RM.cons.2 ⟨e', _, rfl, h1, h2, RM.push hk k v c e he hr hu h3 hm⟩
end
section
variable {T : Tab} {P : Program} {n : Nat} {ops : Array Oper} {Q : Exit → Act → World → Prop} {w w0 : World} {G0 G : GH} {D0 : List Nat} {L L1 : List Rs} {e : EL} {a : Act} {rest : List Oper}
variable {d ty t yt : Nat} {ps : String} {af : Array Edge} {g : Option (Nat × Bool)} {x y z : Operand}
variable {K V : Type} [DecidableEq K] {agg : Bool} {fk : K → D} {fv : V → D} {kv : K → Value} {desc : TypeDesc} {kvs : List (K × V)}
def okv (commaOk : Bool) (v : Value) (b : Bool) : Value := if commaOk then .tuple ⟨[v, .bool b]⟩ else v
theorem f_lookM {m : Nat} {es : Array MapEntry} {cl kt vt : Nat} (hk : KeyK K fk kv desc) (i : Nat) (hL : L[i]? = some (.map m es cl)) (hR : RM G agg fk fv kvs es.toList) (hu : P.underlying t = some (.map kt vt)) (hkt : P.underlying kt = some desc) (co : Bool) {k : K} (hE : Env a n e) (hx : ev e x = some (.map (some m))) (hy : ev e y = some (kv k)) {zv : V} {zc : List Value} {zu : Value}
 (hz : (P.info? vt).bind (·.zero) = some zu) (hzr : Rep G (fv zv) zc) (hzu : if agg then zu = Value.agg ⟨zc⟩ else zc = [zu]) :
 ∃ c u, Rep G (fv ((mget kvs k).getD zv)) c ∧ (if agg then u = Value.agg ⟨c⟩ else c = [u]) ∧ ∀ (w0 : World) (G0 : GH) (D0 : List Nat), RT P n e (Inv w0 G0 D0 G L) (.lookup t x y co) (okv co u (mget kvs k).isSome) := by
 rcases RM.find hk k 0 hR with ⟨g1, g2⟩ | ⟨v, c, u, j, g1, g2, g3, g4, g5, _⟩
 · refine ⟨zc, zu, by rw [g1]; exact hzr, hzu, fun w0 G0 D0 a w dst ty ps af g hE hI => ?_⟩
   have hm : w.heap[m]? = some (.map es cl) := hI.ok _ (List.mem_of_getElem? hL)
   have hzero : (zeroValue vt).run P w = .ok zu w := by
    cases hi : P.info? vt with
    | none => simp [hi] at hz
    | some i => simp [hi] at hz; simp [zeroValue, typeInfo, hi, hz]
   have hf : (Instr.findKey kt (kv k) es.toList).run P w = .ok none w := by
    simp only [Instr.findKey, Sem.run_bind, run_underlying hkt, Result.andThen_ok, g2, Sem.run_pure]
   have : (Instr.lookup t (.map (some m)) (kv k) co).run P w = .ok (okv co zu (mget kvs k).isSome) w := by
    simp only [Instr.lookup, Sem.run_bind, run_underlying hu, Result.andThen_ok, get_map hm, Sem.run_pure, hk.ok P kt k _ w hkt, hf, hzero, g1]
    cases co <;> rfl
   simp [execOp, hE.eval hx, hE.eval hy, this]
 · refine ⟨c, u, by rw [g1]; exact g2, g3, fun w0 G0 D0 a w dst ty ps af g hE hI => ?_⟩
   have hm : w.heap[m]? = some (.map es cl) := hI.ok _ (List.mem_of_getElem? hL)
   have hf : (Instr.findKey kt (kv k) es.toList).run P w = .ok (some (0 + j, u)) w := by
    simp only [Instr.findKey, Sem.run_bind, run_underlying hkt, Result.andThen_ok, g4, Sem.run_pure]
   have : (Instr.lookup t (.map (some m)) (kv k) co).run P w = .ok (okv co u (mget kvs k).isSome) w := by
    simp only [Instr.lookup, Sem.run_bind, run_underlying hu, Result.andThen_ok, get_map hm, Sem.run_pure, hk.ok P kt k _ w hkt, hf, g1]
    cases co <;> rfl
   simp [execOp, hE.eval hx, hE.eval hy, this]
theorem s_makeMap (hI : Inv w0 G0 D0 G L w) (hE : Env a n e) (hg : gd ops e g = some true) (hd : Nat.blt d n = true)
 (k : ∀ a' w' m, Env a' n ((d, .map (some m)) :: e) → Inv w0 G0 D0 G (.map m #[] 0 :: L) w' → wpList P ops Q rest a' w') :
 wpList P ops Q (⟨some d, .makeMap t none, ty, ps, af, g⟩ :: rest) a w := by
 refine wpList_do (gd_wanted hE hg) (wp_val (w' := w.alloc (.map #[] 0)) (v := .map (some w.heap.size)) ?_ (k _ _ _ (hE.put hd _) (hI.new _ (.map w.heap.size #[] 0) (by show (w.heap.push _)[w.heap.size]? = _; simp) rfl)))
 simp [execOp, Instr.makeMap, newObj]
 rfl
theorem s_mapUpd {m : Nat} {es : Array MapEntry} {cl kt vt : Nat} (hk : KeyK K fk kv desc) (i : Nat) (hI : Inv w0 G0 D0 G L w) (hE : Env a n e) (hg : gd ops e g = some true) (hL : L[i]? = some (.map m es cl)) (hR : RM G agg fk fv kvs es.toList) (hu : P.underlying t = some (.map kt vt)) (hkt : P.underlying kt = some desc) {k : K}
 (hx : ev e x = some (.map (some m))) (hy : ev e y = some (kv k)) {u : Value} (hz : ev e z = some u) {v : V} {c : List Value} (hr : Rep G (fv v) c) (hc : if agg then u = Value.agg ⟨c⟩ else c = [u])
 (K : ∀ a' w' es' cl', Env a' n e → RM G agg fk fv (mput kvs k v) es'.toList → Inv w0 G0 D0 G (L.set i (.map m es' cl')) w' → wpList P ops Q rest a' w') :
 wpList P ops Q (⟨none, .mapUpdate t x y z, ty, ps, af, g⟩ :: rest) a w := by
 have hm : w.heap[m]? = some (.map es cl) := hI.ok _ (List.mem_of_getElem? hL)
 have fin : ∀ (es' : Array MapEntry) (cl' : Nat), Inv w0 G0 D0 G (L.set i (.map m es' cl')) { w with heap := w.heap.setIfInBounds m (.map es' cl') } := by
  intro es' cl'
  refine hI.turn i hL _ rfl rfl rfl (by simp) (fun k hk hne => ?_) ?_ (.inl rfl)
  · have : m ≠ k := fun e => hne (by simp [Rs.foot, e])
    show (w.heap.setIfInBounds m _)[k]? = _
    rw [Array.getElem?_setIfInBounds_ne this]
  · show (w.heap.setIfInBounds m _)[m]? = _
    have hlt := (Array.getElem?_eq_some_iff.1 hm).1
    simp [hlt]
 rcases RM.find hk k 0 hR with ⟨g1, g2⟩ | ⟨v', c', u', j, g1, g2, g3, g4, g5, g6⟩
 · have hf : (Instr.findKey kt (kv k) es.toList).run P w = .ok none w := by
    simp only [Instr.findKey, Sem.run_bind, run_underlying hkt, Result.andThen_ok, g2, Sem.run_pure]
   have hrun : (Instr.mapUpdate t (.map (some m)) (kv k) u).run P w = .ok () { w with heap := w.heap.setIfInBounds m (.map (es.push { key := kv k, val := u, born := cl }) (cl + 1)) } := by
    simp only [Instr.mapUpdate, Sem.run_bind, run_underlying hu, Result.andThen_ok, get_map hm, hk.ok P kt k _ w hkt, hf, set_map _ hm]
   refine wpList_do (gd_wanted hE hg) (wp_skp (w' := { w with heap := w.heap.setIfInBounds m (.map (es.push { key := kv k, val := u, born := cl }) (cl + 1)) }) ?_ (K _ _ (es.push { key := kv k, val := u, born := cl }) (cl + 1) (hE.put_none _) ?_ (fin _ _)))
   · simp [execOp, hE.eval hx, hE.eval hy, hE.eval hz, hrun]
   · rw [Array.toList_push]; exact RM.push hk k v c _ rfl hr hc hR g1
 · have hf : (Instr.findKey kt (kv k) es.toList).run P w = .ok (some (0 + j, u')) w := by
    simp only [Instr.findKey, Sem.run_bind, run_underlying hkt, Result.andThen_ok, g4, Sem.run_pure]
   have hkey : ((es[0 + j]?).map (·.key)).getD (kv k) = kv k := by
    rw [Nat.zero_add, ← Array.getElem?_toList, g5]; rfl
   have hst : (Instr.keyThatStays (kv k) (kv k)).run P w = .ok (kv k) w := by
    simp only [Instr.keyThatStays, hk.bits, if_true, Sem.run_pure]
   have hrun : (Instr.mapUpdate t (.map (some m)) (kv k) u).run P w = .ok () { w with heap := w.heap.setIfInBounds m (.map (es.modify (0 + j) fun e => { e with key := kv k, val := u }) cl) } := by
    simp only [Instr.mapUpdate, Sem.run_bind, run_underlying hu, Result.andThen_ok, get_map hm, hk.ok P kt k _ w hkt, hf, hkey, hst, set_map _ hm]
   refine wpList_do (gd_wanted hE hg) (wp_skp (w' := { w with heap := w.heap.setIfInBounds m (.map (es.modify (0 + j) fun e => { e with key := kv k, val := u }) cl) }) ?_ (K _ _ (es.modify (0 + j) fun e => { e with key := kv k, val := u }) cl (hE.put_none _) ?_ (fin _ _)))
   · simp [execOp, hE.eval hx, hE.eval hy, hE.eval hz, hrun]
   · rw [Array.toList_modify, Nat.zero_add]; exact g6 v c u hr hc
theorem f_lookG {A : Option Nat} {kt vt : Nat} (hk : KeyK K fk kv desc) (hM : Mp G A agg fk fv kvs) (hu : P.underlying t = some (.map kt vt)) (hkt : P.underlying kt = some desc) (co : Bool) {k : K} (hE : Env a n e) (hx : ev e x = some (.map A)) (hy : ev e y = some (kv k)) {zv : V} {zc : List Value} {zu : Value}
 (hz : (P.info? vt).bind (·.zero) = some zu) (hzr : Rep G (fv zv) zc) (hzu : if agg then zu = Value.agg ⟨zc⟩ else zc = [zu]) :
 ∃ c u, Rep G (fv ((mget kvs k).getD zv)) c ∧ (if agg then u = Value.agg ⟨c⟩ else c = [u]) ∧ ∀ (w0 : World) (G0 : GH) (D0 : List Nat), RT P n e (Inv w0 G0 D0 G L) (.lookup t x y co) (okv co u (mget kvs k).isSome) := by
 obtain ⟨m, es, cl, rfl, hm, hR⟩ := hM.open
 rcases RM.find hk k 0 hR with ⟨g1, g2⟩ | ⟨v, c, u, j, g1, g2, g3, g4, g5, _⟩
 · refine ⟨zc, zu, by rw [g1]; exact hzr, hzu, fun w0 G0 D0 a w dst ty ps af g hE hI => ?_⟩
   have hzero : (zeroValue vt).run P w = .ok zu w := by
    cases hi : P.info? vt with
    | none => simp [hi] at hz
    | some i => simp [hi] at hz; simp [zeroValue, typeInfo, hi, hz]
   have hget : (getObj m).run P w = .ok (.map es cl) w := get_map (hI.inG _ _ hm)
   have hf : (Instr.findKey kt (kv k) es.toList).run P w = .ok none w := by
    simp only [Instr.findKey, Sem.run_bind, run_underlying hkt, Result.andThen_ok, g2, Sem.run_pure]
   have : (Instr.lookup t (.map (some m)) (kv k) co).run P w = .ok (okv co zu (mget kvs k).isSome) w := by
    simp only [Instr.lookup, Sem.run_bind, run_underlying hu, Result.andThen_ok, hget, Sem.run_pure, hk.ok P kt k _ w hkt, hf, hzero, g1]
    cases co <;> rfl
   simp [execOp, hE.eval hx, hE.eval hy, this]
 · refine ⟨c, u, by rw [g1]; exact g2, g3, fun w0 G0 D0 a w dst ty ps af g hE hI => ?_⟩
   have hget : (getObj m).run P w = .ok (.map es cl) w := get_map (hI.inG _ _ hm)
   have hf : (Instr.findKey kt (kv k) es.toList).run P w = .ok (some (0 + j, u)) w := by
    simp only [Instr.findKey, Sem.run_bind, run_underlying hkt, Result.andThen_ok, g4, Sem.run_pure]
   have : (Instr.lookup t (.map (some m)) (kv k) co).run P w = .ok (okv co u (mget kvs k).isSome) w := by
    simp only [Instr.lookup, Sem.run_bind, run_underlying hu, Result.andThen_ok, hget, Sem.run_pure, hk.ok P kt k _ w hkt, hf, g1]
    cases co <;> rfl
   simp [execOp, hE.eval hx, hE.eval hy, this]
end
section
variable {w w0 : World} {G0 G : GH} {D0 : List Nat} {L : List Rs} {K V : Type} {agg : Bool} {fk : K → D} {fv : V → D} {kvs : List (K × V)}
theorem Inv.giveM {m : Nat} {es : Array MapEntry} {cl : Nat} (h : Inv w0 G0 D0 G (.map m es cl :: L) w) (hR : RM G agg fk fv kvs es.toList) : ∃ G', G.le G' ∧ Inv w0 G0 D0 G' L w ∧ Mp G' (some m) agg fk fv kvs := by
 have hb : w.heap[m]? = some (.map es cl) := h.ok _ List.mem_cons_self
 obtain ⟨h1, h2⟩ := h.give (by simp [Rs.foot]) hb
 exact ⟨_, h1, h2, Mp.mk (hR.mono h1) (GH.with_self _ _ _)⟩
end
end Go.Proofs.YtknhbphhdfknaaaGreatDoor
