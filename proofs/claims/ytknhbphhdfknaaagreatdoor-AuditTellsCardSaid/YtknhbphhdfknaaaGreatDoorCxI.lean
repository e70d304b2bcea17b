import Derived.Test.YtknhbphhdfknaaaGreatDoorCxH
import Derived.Laws.OwnMore
set_option linter.unusedVariables false
set_option linter.unusedSimpArgs false
namespace Go.Proofs.YtknhbphhdfknaaaGreatDoor
open Go.RowKit
def putAt (cs : List Value) (o : Nat) (vs : List Value) : List Value := cs.take o ++ vs ++ cs.drop (o + vs.length)
theorem take_app {α : Type} {l m : List α} {n k : Nat} (h : l.length = n) : (l ++ m).take (n + k) = l ++ m.take k := by subst h; exact List.take_length_add_append k
theorem drop_app {α : Type} {l m : List α} {n k : Nat} (h : l.length = n) : (l ++ m).drop (n + k) = m.drop k := by subst h; exact List.drop_length_add_append k
theorem take_app0 {α : Type} {l m : List α} {n : Nat} (h : l.length = n) : (l ++ m).take n = l := List.take_left' h
theorem drop_app0 {α : Type} {l m : List α} {n : Nat} (h : l.length = n) : (l ++ m).drop n = m := List.drop_left' h
theorem RL.split {G : GH} {sz : Nat} : ∀ {xs : List D} {cs : List Value}, RL G sz xs cs → ∀ i (hi : i < xs.length), ∃ c, c.length = sz ∧ Rep G xs[i] c ∧ cs = cs.take (i * sz) ++ c ++ cs.drop (i * sz + sz) ∧ RL G sz (xs.take i) (cs.take (i * sz)) ∧ RL G sz (xs.drop (i + 1)) (cs.drop (i * sz + sz))
 | [], _, _, i, hi => by simp at hi
 | d :: ds, _, h, i, hi => by
  simp only [RL] at h
  obtain ⟨c1, c2, rfl, h1, h2, h3⟩ := h
  cases i with
  | zero =>
   refine ⟨c1, h1, h2, ?_, ?_, ?_⟩
   · simp [← h1]
   · simp [RL.nil]
   · rw [Nat.zero_mul]; simp only [Nat.zero_add, drop_app0 h1]; exact h3
  | succ i =>
   obtain ⟨c, g1, g2, g3, g4, g5⟩ := RL.split h3 i (by simpa using hi)
   have e : (i + 1) * sz = c1.length + i * sz := by rw [Nat.succ_mul, h1]; omega
   refine ⟨c, g1, by simpa using g2, ?_, ?_, ?_⟩
   · rw [e, List.take_length_add_append, Nat.add_assoc, List.drop_length_add_append]
     simp only [List.append_assoc]
     conv => lhs; rw [g3]
     simp only [List.append_assoc]
   · rw [e, List.take_length_add_append]
     simpa using RL.cons h2 h1 g4
   · have e2 : (i + 1) * sz + sz = c1.length + (i * sz + sz) := by omega
     rw [e2, List.drop_length_add_append]
     simpa using g5
theorem rl_at {G : GH} {sz : Nat} {α : Type} {f : α → D} {xs : List α} {cs : List Value} {i : Int} {y : α} (h : RL G sz (xs.map f) cs) (hy : xs[i.toNat]? = some y) :
 ∃ c, c.length = sz ∧ Rep G (f y) c ∧ cs = cs.take (i.toNat * sz) ++ c ++ cs.drop (i.toNat * sz + sz) := by
 have hlt : i.toNat < xs.length := (List.getElem?_eq_some_iff.1 hy).1
 obtain ⟨c, h1, h2, h3, _, _⟩ := h.split i.toNat (by simpa using hlt)
 have hyy : (xs.map f)[i.toNat]'(by simpa using hlt) = f y := by
  have := (List.getElem?_eq_some_iff.1 hy).2
  simp [this]
 rw [hyy] at h2
 exact ⟨c, h1, h2, h3⟩
theorem RL.set {G : GH} {sz : Nat} {α : Type} {f : α → D} {xs : List α} {cs : List Value} {i : Int} {y : α} {c : List Value} (h : RL G sz (xs.map f) cs) (hlt : i.toNat < xs.length) (hr : Rep G (f y) c) (hc : c.length = sz) :
 RL G sz ((setO xs i y).map f) (putAt cs (i.toNat * sz) c) := by
 obtain ⟨_, _, _, _, h4, h5⟩ := h.split i.toNat (by simpa using hlt)
 have e : (setO xs i y).map f = (xs.map f).take i.toNat ++ (f y :: (xs.map f).drop (i.toNat + 1)) := by
  unfold setO
  rw [List.map_set, List.set_eq_take_append_cons_drop, if_pos (by simpa using hlt)]
 rw [e, putAt, hc, List.append_assoc]
 exact h4.append (RL.cons hr hc h5)
theorem setO_len {α : Type} (xs : List α) (i : Int) (y : α) : (setO xs i y).length = xs.length := by simp [setO]
theorem RL.made {G : GH} {α : Type} {f : α → D} {z : α} {v : Value} {c : Int} {l : List α} (h : mkO c z = some l) (hr : Rep G (f z) [v]) : RL G 1 (l.map f) (List.replicate l.length v) := by
 have hz : ∀ n, RL G 1 ((List.replicate n z).map f) (List.replicate n v) := by
  intro n
  induction n with
  | zero => exact RL.nil
  | succ n ih => rw [List.replicate_succ, List.map_cons]; exact RL.cons (c := [v]) hr rfl ih
 conv => lhs; rw [(mkO_some h).2.2]
 exact hz _
theorem Sl.nil0 {G : GH} {c sz : Nat} {α : Type} {f : α → D} {xs : List α} (h : Sl G none c sz (xs.map f)) : xs = [] := by
 rcases h.2.2 with h | ⟨b, o, h, _⟩
 · simpa using h
 · cases h
section
variable {T : Tab} {P : Program} {n : Nat} {ops : Array Oper} {Q : Exit → Act → World → Prop} {w w0 : World} {G0 G : GH} {D0 : List Nat} {L L1 : List Rs} {e : EL} {a : Act} {rest : List Oper} {C : World → Prop}
variable {d ty t yt : Nat} {ps : String} {af : Array Edge} {g : Option (Nat × Bool)} {x y : Operand}
theorem eq_ptr {A : Option Addr} {te : Nat} (hu : P.underlying t = some (.pointer te)) : (Op.equal t (.pointer A) (.pointer none)).run P w = .ok A.isNone w := by
 unfold Op.equal
 rw [show Op.maxDepth = (Op.maxDepth - 1) + 1 from rfl]
 unfold Op.equalIn
 simp only [Sem.run_bind, run_underlying hu, Result.andThen_ok]
 cases A <;> rfl
theorem eq_bool {A B : Bool} (hu : P.underlying t = some .bool) : (Op.equal t (.bool A) (.bool B)).run P w = .ok (A == B) w := by
 unfold Op.equal
 rw [show Op.maxDepth = (Op.maxDepth - 1) + 1 from rfl]
 unfold Op.equalIn
 simp only [Sem.run_bind, run_underlying hu, Result.andThen_ok]
 rfl
theorem f_pnil {A : Option Addr} {te TT : Nat} {α : Type} {f : α → D} {p : Option α} (hu : P.underlying t = some (.pointer te)) (h : Pt G A TT f p) (hx : ev e x = some (.pointer A)) (hy : ev e y = some (.pointer none)) :
 RT P n e C (.binOp .eql t x y yt) (.bool p.isNone) := by
 intro a w dst ty ps af g hE hC
 have hb : (binOp .eql t (.pointer A) (.pointer none)).run P w = .ok (.bool p.isNone) w := by
  show ((do pure (.bool (← Op.equal t (.pointer A) (.pointer none))) : Sem Value)).run P w = _
  rw [Sem.run_bind, eq_ptr hu, Result.andThen_ok, h.isNone]; rfl
 simp [execOp, hE.eval hx, hE.eval hy, eqGuard, hb]
theorem f_pnn {A : Option Addr} {te TT : Nat} {α : Type} {f : α → D} {p : Option α} (hu : P.underlying t = some (.pointer te)) (h : Pt G A TT f p) (hx : ev e x = some (.pointer A)) (hy : ev e y = some (.pointer none)) :
 RT P n e C (.binOp .neq t x y yt) (.bool (!p.isNone)) := by
 intro a w dst ty ps af g hE hC
 have hb : (binOp .neq t (.pointer A) (.pointer none)).run P w = .ok (.bool (!p.isNone)) w := by
  show ((do pure (.bool (!(← Op.equal t (.pointer A) (.pointer none)))) : Sem Value)).run P w = _
  rw [Sem.run_bind, eq_ptr hu, Result.andThen_ok, h.isNone]; rfl
 simp [execOp, hE.eval hx, hE.eval hy, eqGuard, hb]
theorem eq_slice {A : Option Addr} {te m c : Nat} (hu : P.underlying t = some (.slice te)) : (Op.equal t (.slice A m c) (.slice none 0 0)).run P w = .ok A.isNone w := by
 unfold Op.equal
 rw [show Op.maxDepth = (Op.maxDepth - 1) + 1 from rfl]
 unfold Op.equalIn
 simp only [Sem.run_bind, run_underlying hu, Result.andThen_ok]
 cases A <;> rfl
theorem f_slnil {A : Option Addr} {te m c sz : Nat} {agg : Bool} {b : Bool} (hT : T.Ok P) (ht : lst T.sl t = some (te, sz, agg)) (hx : ev e x = some (.slice A m c)) (hy : ev e y = some (.slice none 0 0)) (hb : A.isNone = b) :
 RT P n e C (.binOp .eql t x y yt) (.bool b) := by
 intro a w dst ty ps af g hE hC
 obtain ⟨hu, _⟩ := hT.sl _ (lst_mem ht)
 dsimp only at hu
 have hb : (binOp .eql t (.slice A m c) (.slice none 0 0)).run P w = .ok (.bool b) w := by
  show ((do pure (.bool (← Op.equal t (.slice A m c) (.slice none 0 0))) : Sem Value)).run P w = _
  rw [Sem.run_bind, eq_slice hu, Result.andThen_ok, hb]; rfl
 simp [execOp, hE.eval hx, hE.eval hy, eqGuard, hb]
theorem f_pA {A : Option Addr} {te : Nat} {b : Bool} (hu : P.underlying t = some (.pointer te)) (hx : ev e x = some (.pointer A)) (hy : ev e y = some (.pointer none)) (hb : A.isNone = b) :
 RT P n e C (.binOp .eql t x y yt) (.bool b) := by
 intro a w dst ty ps af g hE hC
 have hb : (binOp .eql t (.pointer A) (.pointer none)).run P w = .ok (.bool b) w := by
  show ((do pure (.bool (← Op.equal t (.pointer A) (.pointer none))) : Sem Value)).run P w = _
  rw [Sem.run_bind, eq_ptr hu, Result.andThen_ok, hb]; rfl
 simp [execOp, hE.eval hx, hE.eval hy, eqGuard, hb]
theorem f_pAn {A : Option Addr} {te : Nat} {b : Bool} (hu : P.underlying t = some (.pointer te)) (hx : ev e x = some (.pointer A)) (hy : ev e y = some (.pointer none)) (hb : (!A.isNone) = b) :
 RT P n e C (.binOp .neq t x y yt) (.bool b) := by
 intro a w dst ty ps af g hE hC
 have hb : (binOp .neq t (.pointer A) (.pointer none)).run P w = .ok (.bool b) w := by
  show ((do pure (.bool (!(← Op.equal t (.pointer A) (.pointer none)))) : Sem Value)).run P w = _
  rw [Sem.run_bind, eq_ptr hu, Result.andThen_ok, hb]; rfl
 simp [execOp, hE.eval hx, hE.eval hy, eqGuard, hb]
theorem Env.setV {a : Act} {n : Nat} {e : EL} (hE : Env a n e) {t : Nat} {u v : Value} (ht : lk e t = some u) (hb : u = v) : Env a n ((t, v) :: e) := by
 subst hb
 refine ⟨hE.defers, hE.size, fun i v hu => ?_⟩
 simp only [lk] at hu
 by_cases h : t = i
 · subst h; simp at hu; subst hu; exact hE.get _ _ ht
 · rw [nbeq_ne h] at hu; exact hE.get _ _ hu
theorem f_beq {A B : Bool} (hu : P.underlying t = some .bool) (hx : ev e x = some (.bool A)) (hy : ev e y = some (.bool B)) : RT P n e C (.binOp .eql t x y yt) (.bool (A == B)) := by
 intro a w dst ty ps af g hE hC
 have hb : (binOp .eql t (.bool A) (.bool B)).run P w = .ok (.bool (A == B)) w := by
  show ((do pure (.bool (← Op.equal t (.bool A) (.bool B))) : Sem Value)).run P w = _
  rw [Sem.run_bind, eq_bool hu, Result.andThen_ok]; rfl
 simp [execOp, hE.eval hx, hE.eval hy, eqGuard, hb]
theorem f_bne {A B : Bool} (hu : P.underlying t = some .bool) (hx : ev e x = some (.bool A)) (hy : ev e y = some (.bool B)) : RT P n e C (.binOp .neq t x y yt) (.bool (!(A == B))) := by
 intro a w dst ty ps af g hE hC
 have hb : (binOp .neq t (.bool A) (.bool B)).run P w = .ok (.bool (!(A == B))) w := by
  show ((do pure (.bool (!(← Op.equal t (.bool A) (.bool B)))) : Sem Value)).run P w = _
  rw [Sem.run_bind, eq_bool hu, Result.andThen_ok]; rfl
 simp [execOp, hE.eval hx, hE.eval hy, eqGuard, hb]
theorem s_appO {t te sz c c2 : Nat} {α : Type} {f : α → D} {xs ys : List α} {A2 A : Option Addr} {cs cs2 : List Value} {x y : Operand} (hA : AppI P t te sz) (i j : Nat) (hI : Inv w0 G0 D0 G L w) (hE : Env a n e) (hg : gd ops e g = some true)
 (hL : L[i]? = some (.row (.slice A xs.length c) te sz xs.length cs)) (hL2 : L[j]? = some (.row (.slice A2 ys.length c2) te sz ys.length cs2)) (hR : RL G sz (ys.map f) cs2) (hx : ev e x = some (.slice A xs.length c)) (hy : ev e y = some (.slice A2 ys.length c2)) (hb : xs.length + ys.length ≤ 4294967296) (hd : Nat.blt d n = true)
 (k : ∀ a' w' A' c', Env a' n ((d, .slice A' (xs ++ ys).length c') :: e) → Inv w0 G0 D0 G (L.set i (.row (.slice A' (xs ++ ys).length c') te sz (xs ++ ys).length (cs ++ cs2))) w' → wpList P ops Q rest a' w') :
 wpList P ops Q (⟨some d, .call ⟨.builtin .append, ⟨[x, y]⟩, ⟨[t, t]⟩⟩, ty, ps, af, g⟩ :: rest) a w := by
 cases A2 with
 | some ad => exact s_appR hA i j hI hE hg hL hL2 hR hx hy hb hd k
 | none =>
  have hown : w.ownsRow 0 te sz (.slice none ys.length c2) ys.length cs2 := hI.ok _ (List.mem_of_getElem? hL2)
  rcases hown.2 with ⟨hv, h0⟩ | ⟨g, cap, cur, hv, _⟩
  · have hys : ys = [] := List.eq_nil_of_length_eq_zero h0
    subst hys
    injection hv with e1 e2 e3
    subst e3
    simp only [List.map_nil, RL] at hR
    subst hR
    refine s_appG (f := f) hA i hI hE hg hL (Sl.nil _ _ _ _ (Nat.zero_le _)) hx hy hb hd fun a' w' A' c' cs2 hE' hR' hI' => k a' w' A' c' hE' ?_
    simp only [List.map_nil, RL] at hR'
    subst hR'
    exact hI'
  · simp at hv
theorem f_cut {α : Type} {f : α → D} {xs zs : List α} {A : Option Addr} {c et sz : Nat} {agg : Bool} {lo hi : Option Operand} {l h : Int} {kl kh : IntKind} (hT : T.Ok P) (hE : Env a n e) (ht : lst T.sl t = some (et, sz, agg)) (hs : Sl G A c sz (xs.map f)) (hx : ev e x = some (.slice A xs.length c))
 (hl : (match lo with | some o => ev e o | none => some (.int .i64 0)) = some (.int kl l)) (hh : (match hi with | some o => ev e o | none => some (.int .i64 xs.length)) = some (.int kh h)) (hz : cutO xs l h = some zs) :
 ∃ A' c', Sl G A' c' sz (zs.map f) ∧ ∀ C, RT P n e C (.slice t x lo hi none) (.slice A' zs.length c') := by
 unfold cutO at hz
 split at hz
 · rename_i hb
   obtain ⟨hu, hsz, _⟩ := hT.sl _ (lst_mem ht)
   dsimp only at hu hsz
   have hlen : xs.length ≤ c := by simpa using hs.1
   have hcut := hs.cut l.toNat h.toNat c (by omega) (by simp; omega) (by omega) (Nat.le_refl _)
   cases hz
   have hL : ((xs.take h.toNat).drop l.toNat).length = h.toNat - l.toNat := by simp; omega
   refine ⟨_, _, by simpa [List.map_drop, List.map_take] using hcut, fun C a w dst ty ps af g hE hC => ?_⟩
   rw [hL]
   cases lo with
   | none =>
    simp at hl; obtain ⟨rfl, rfl⟩ := hl
    cases hi with
    | none =>
     simp at hh; obtain ⟨rfl, rfl⟩ := hh
     simp [execOp, hE.eval hx, Instr.sliceAt, Instr.slice, Instr.sliceBounds, run_underlying hu, run_ty hsz]
    | some o =>
     have := hE.eval hh
     have h2 : h ≤ (c : Int) := by omega
     have h3 : 0 ≤ h := by omega
     simp [execOp, hE.eval hx, Instr.sliceAt, Instr.slice, Instr.sliceBounds, Instr.sliceBound, run_underlying hu, this, asIntOf, hb, run_ty hsz, h2, h3]
   | some o =>
    have h1 := hE.eval hl
    cases hi with
    | none =>
     simp at hh; obtain ⟨rfl, rfl⟩ := hh
     simp [execOp, hE.eval hx, Instr.sliceAt, Instr.slice, Instr.sliceBounds, Instr.sliceBound, run_underlying hu, h1, asIntOf, hb, run_ty hsz]
    | some o =>
     have := hE.eval hh
     have h0 : 0 ≤ h := by omega
     have h2 : max h 0 = h := by omega
     have h3 : h ≤ (c : Int) := by omega
     simp [execOp, hE.eval hx, Instr.sliceAt, Instr.slice, Instr.sliceBounds, Instr.sliceBound, run_underlying hu, this, h1, asIntOf, hb, h0, h2, h3, run_ty hsz]
 · cases hz
def pickL : List Nat → List Rs → Option (List Rs)
 | [], _ => some []
 | i :: is, L => match L[i]?, pickL is L with
  | some r, some l => some (r :: l)
  | _, _ => none
theorem pickL_mem : ∀ {is : List Nat} {L L' : List Rs}, pickL is L = some L' → ∀ r, r ∈ L' → ∃ i, i ∈ is ∧ L[i]? = some r
 | [], _, _, h, r, hr => by simp only [pickL, Option.some.injEq] at h; subst h; simp at hr
 | i :: is, L, L', h, r, hr => by
  simp only [pickL] at h
  split at h
  · rename_i x l h1 h2
    cases h
    rcases List.mem_cons.1 hr with rfl | hr
    · exact ⟨i, List.mem_cons_self, h1⟩
    · obtain ⟨j, h3, h4⟩ := pickL_mem h2 r hr
      exact ⟨j, List.mem_cons_of_mem _ h3, h4⟩
  · cases h
theorem pickL_pw {R : Rs → Rs → Prop} : ∀ {is : List Nat} {L L' : List Rs}, pickL is L = some L' → is.Nodup → (∀ (i j : Nat) (r s : Rs), i ≠ j → L[i]? = some r → L[j]? = some s → R r s) → L'.Pairwise R
 | [], _, _, h, _, _ => by simp only [pickL, Option.some.injEq] at h; subst h; exact .nil
 | i :: is, L, L', h, hn, hR => by
  simp only [pickL] at h
  split at h
  · rename_i x l h1 h2
    cases h
    obtain ⟨hn1, hn2⟩ := List.nodup_cons.1 hn
    refine List.pairwise_cons.2 ⟨fun s hs => ?_, pickL_pw h2 hn2 hR⟩
    obtain ⟨j, h3, h4⟩ := pickL_mem h2 s hs
    exact hR i j x s (fun e => hn1 (e ▸ h3)) h1 h4
  · cases h
theorem Inv.pick {L' : List Rs} (h : Inv w0 G0 D0 G L w) (is : List Nat) (hn : is.Nodup) (hp : pickL is L = some L') : Inv w0 G0 D0 G L' w := by
 have hm : ∀ r, r ∈ L' → r ∈ L := fun r hr => by
  obtain ⟨i, _, h2⟩ := pickL_mem hp r hr
  exact List.mem_of_getElem? h2
 refine ⟨h.os, h.tape, h.output, h.size, h.fr, h.le, h.fresh, h.inG, fun r hr => h.ok r (hm r hr), fun r hr => h.sep r (hm r hr), pickL_pw hp hn fun i j r s hij hi hj b hb he => ?_⟩
 have hd := h.dis
 rw [List.pairwise_iff_getElem] at hd
 obtain ⟨hi1, hi2⟩ := List.getElem?_eq_some_iff.1 hi
 obtain ⟨hj1, hj2⟩ := List.getElem?_eq_some_iff.1 hj
 rcases Nat.lt_or_gt_of_ne hij with hlt | hgt
 · exact hd i j hi1 hj1 hlt b (by rw [hi2]; exact hb) (by rw [hj2]; exact he)
 · exact hd j i hj1 hi1 hgt b (by rw [hj2]; exact he) (by rw [hi2]; exact hb)
theorem row_ptr {A : Option Addr} {c te sz m : Nat} {cs : List Value} (i : Nat) (hI : Inv w0 G0 D0 G L w) (hL : L[i]? = some (.row (.slice A m c) te sz m cs)) {j : Int} {α : Type} {xs : List α} {y : α} (hm : m = xs.length) (hy : xs[j.toNat]? = some y) : ∃ b, A = some ⟨b, 0, none⟩ := by
 have hlt : j.toNat < xs.length := (List.getElem?_eq_some_iff.1 hy).1
 have hown : w.ownsRow 0 te sz (.slice A m c) m cs := hI.ok _ (List.mem_of_getElem? hL)
 rcases hown.2 with ⟨hv, h0⟩ | ⟨g, cap, cur, hv, _⟩
 · omega
 · injection hv with e1 e2 e3
   exact ⟨g, e1⟩
theorem Inv.rle (hI : Inv w0 G0 D0 G L w) {A : Option Addr} {c te sz : Nat} {cs : List Value} {α : Type} {xs : List α} (i : Nat) (hL : L[i]? = some (.row (.slice A xs.length c) te sz xs.length cs)) : xs.length ≤ 9223372036854775807 := by
 have hown : w.ownsRow 0 te sz (.slice A xs.length c) xs.length cs := hI.ok _ (List.mem_of_getElem? hL)
 rcases hown.2 with ⟨hv, h0⟩ | ⟨g, cap, cur, hv, _, _, h1, h2, _⟩
 · omega
 · unfold maxLen at h2; omega
theorem row_idx {α : Type} {xs : List α} {j : Int} {y : α} (h0 : 0 ≤ j) (hy : xs[j.toNat]? = some y) (b sz : Nat) : 0 ≤ j ∧ j < ((xs.length : Nat) : Int) ∧ ∃ o', some (⟨b, 0, none⟩ : Addr) = some ⟨b, o', none⟩ ∧ j.toNat * sz = o' + j.toNat * sz := by
 have hlt : j.toNat < xs.length := (List.getElem?_eq_some_iff.1 hy).1
 exact ⟨h0, by omega, 0, rfl, by omega⟩
theorem f_loadR {t' sz sz' b c te m o o' : Nat} {agg : Bool} {cs ec : List Value} {v : Value} (hT : T.Ok P) (i : Nat) (hL : L[i]? = some (.row (.slice (some ⟨b, 0, none⟩) m c) te sz m cs)) (hc : cs = cs.take o ++ ec ++ cs.drop (o + sz)) (off : Nat)
 (hx : ev e x = some (.pointer (some ⟨b, o', none⟩))) (ho : o' = o + off) (ht : lst T.ty t' = some (sz', agg)) (hv : ldv agg ec off sz' = some v) (hlen : o ≤ cs.length) : RT P n e (Inv w0 G0 D0 G L) (.load t' x) v := by
 intro a w dst ty ps af g hE hI
 subst ho
 have hown : w.ownsRow 0 te sz (.slice (some ⟨b, 0, none⟩) m c) m cs := hI.ok _ (List.mem_of_getElem? hL)
 have := load_run (P := P) (w := w) (b := b) (o := o) (off := off) hT ht hv (fun j u hu => by
  rcases hown.2 with ⟨hv, h0⟩ | ⟨g, cap, cur, hv, _, hg, hnc, hcm, hsz, htk⟩
  · simp at hv
  · injection hv with e1 e2 e3
    injection e1 with e1
    injection e1 with e1
    subst e1
    have h1 : cs[o + j]? = some u := by
     rw [hc]
     have hj : j < ec.length := (List.getElem?_eq_some_iff.1 hu).1
     rw [List.append_assoc, List.getElem?_append_right (by simp; omega)]
     simp only [List.length_take, Nat.min_eq_left hlen]
     rw [Nat.add_sub_cancel_left, List.getElem?_append_left hj, hu]
    rw [← htk, List.getElem?_take] at h1
    split at h1
    · simp [World.cell?, hg]; simpa using h1
    · cases h1)
 simp [execOp, hE.eval hx, this]
theorem row_len {sz : Nat} {cs : List Value} {α : Type} {xs : List α} {j : Int} {y : α} {f : α → D} (h : RL G sz (xs.map f) cs) (hy : xs[j.toNat]? = some y) : j.toNat * sz ≤ cs.length := by
 have hlt : j.toNat < xs.length := (List.getElem?_eq_some_iff.1 hy).1
 rw [h.length]; simp
 exact Nat.mul_le_mul_right sz (by omega)
theorem row_lt {α : Type} {xs : List α} {j : Int} {y : α} (hy : xs[j.toNat]? = some y) : j.toNat < xs.length := (List.getElem?_eq_some_iff.1 hy).1
theorem s_storeR {t sz sz' b c te m o o' : Nat} {agg : Bool} {cs ec ec' vs : List Value} {v : Value} (hT : T.Ok P) (i : Nat) (hI : Inv w0 G0 D0 G L w) (hE : Env a n e) (hg : gd ops e g = some true) (hL : L[i]? = some (.row (.slice (some ⟨b, 0, none⟩) m c) te sz m cs))
 (hc : cs = cs.take o ++ ec ++ cs.drop (o + sz)) (hel : ec.length = sz) (hlen : o ≤ cs.length) (off : Nat) (hx : ev e x = some (.pointer (some ⟨b, o', none⟩))) (hy : ev e y = some v) (ho : o' = o + off) (ht : lst T.ty t = some (sz', agg))
 (hv : vcells v = some vs) (h1 : vs.all one1 = true) (hsz : Nat.beq vs.length sz' = true) (hcs : lay ec off vs = some ec')
 (k : ∀ a' w', Env a' n e → ec'.length = sz → putAt cs o ec' = (putAt cs o ec').take o ++ ec' ++ (putAt cs o ec').drop (o + sz) → Inv w0 G0 D0 G (L.set i (.row (.slice (some ⟨b, 0, none⟩) m c) te sz m (putAt cs o ec'))) w' → wpList P ops Q rest a' w') :
 wpList P ops Q (⟨none, .store t x y, ty, ps, af, g⟩ :: rest) a w := by
 subst ho
 have hown : w.ownsRow 0 te sz (.slice (some ⟨b, 0, none⟩) m c) m cs := hI.ok _ (List.mem_of_getElem? hL)
 obtain ⟨g1, g2⟩ := lay_eq hcs
 have hel' : ec'.length = sz := by rw [g1]; simp; omega
 have hvc : v.cells = vs.toArray := by cases v <;> simp [vcells] at hv <;> subst hv <;> rfl
 obtain ⟨ht1, _⟩ := hT.ty _ (lst_mem ht)
 rcases hown.2 with ⟨hv', h0⟩ | ⟨gg, cap, cur, hv', hbg, hgg, hnc, hcm, hcsz, htk⟩
 · simp at hv'
 injection hv' with e1 e2 e3
 injection e1 with e1
 injection e1 with e1
 subst e1
 have hcl : cs.length = m * sz := hown.1
 have hcc : o + sz ≤ cs.length := by
  have := congrArg List.length hc
  simp only [List.length_append, List.length_take, List.length_drop, hel, Nat.min_eq_left hlen] at this
  omega
 have hcur : cs.length ≤ cur.toList.length := by rw [← htk, List.length_take]; exact Nat.min_le_right _ _
 have hst := run_storeCells_at P b (o + off) te vs 0 cur w hgg (by simp at hcur ⊢; omega) (fun u hu => one1_one (List.all_eq_true.1 h1 u hu))
 simp only [Nat.add_zero] at hst
 have hcurs : cur.toList = cs ++ cur.toList.drop cs.length := by
  conv => lhs; rw [← List.take_append_drop (m * sz) cur.toList]
  rw [htk, hcl]
 have hnew : (cur.toList.take (o + off) ++ vs ++ cur.toList.drop (o + off + vs.length)) = putAt cs o ec' ++ cur.toList.drop cs.length := by
  have hpa : putAt cs o ec' = cs.take (o + off) ++ vs ++ cs.drop (o + off + vs.length) := by
   unfold putAt
   rw [hel', g1]
   conv => rhs; rw [hc]
   have hol : (cs.take o).length = o := by simp; omega
   have e1 : List.take (o + off) (cs.take o ++ ec ++ cs.drop (o + sz)) = cs.take o ++ ec.take off := by
    rw [List.append_assoc, take_app hol, List.take_append_of_le_length (by omega)]
   have e2 : List.drop (o + off + vs.length) (cs.take o ++ ec ++ cs.drop (o + sz)) = ec.drop (off + vs.length) ++ cs.drop (o + sz) := by
    rw [List.append_assoc, Nat.add_assoc, drop_app hol, List.drop_append_of_le_length (by omega)]
   rw [e1, e2]
   simp only [List.append_assoc]
  rw [hpa]
  conv => lhs; rw [hcurs]
  rw [List.take_append_of_le_length (by omega), List.drop_append_of_le_length (by omega)]
  simp only [List.append_assoc]
 have hpl : (putAt cs o ec').length = cs.length := by unfold putAt; simp; omega
 refine wpList_do (gd_wanted hE hg) (wp_skp (w' := w.setRow b (putAt cs o ec' ++ cur.toList.drop cs.length).toArray) ?_ (k _ _ (hE.put_none _) hel' ?_ ?_))
 · have hsz' : vs.length = sz' := Nat.eq_of_beq_eq_true hsz
   simp [execOp, hE.eval hx, hE.eval hy, Instr.storeAt, Instr.sureAddr, storeVar, hvc, run_ty ht1, hsz', hst]
   rw [← hnew]; simp [hsz']
 · unfold putAt
   have hol : (cs.take o).length = o := by simp; omega
   rw [List.append_assoc, take_app0 hol, drop_app hol, hel', drop_app0 hel', ← List.append_assoc]
 · refine hI.turn i hL _ rfl rfl rfl (by simp) (fun k hk hne => setRow_other w b k _ (fun e => hne (by simp [Rs.foot, Value.ownBlock, e]))) ?_ (.inl rfl)
   refine ⟨by rw [hpl]; exact hcl, .inr ⟨b, c, (putAt cs o ec' ++ cur.toList.drop cs.length).toArray, rfl, Nat.zero_le _, setRow_heap w b _ _ _ _ hgg, ?_, ?_, ?_, ?_⟩⟩
   · subst e3; exact hnc
   · subst e3; exact hcm
   · subst e3; simp [hpl]; simp at hcur; omega
   · simp; rw [← hcl, ← hpl, List.take_left' rfl]
theorem s_storeS {α : Type} {xs : List α} {j : Int} {y' : α} {t sz sz' b c te o o' : Nat} {agg : Bool} {cs ec ec' vs : List Value} {v : Value} (hT : T.Ok P) (i : Nat) (hI : Inv w0 G0 D0 G L w) (hE : Env a n e) (hg : gd ops e g = some true) (hL : L[i]? = some (.row (.slice (some ⟨b, 0, none⟩) xs.length c) te sz xs.length cs))
 (hc : cs = cs.take o ++ ec ++ cs.drop (o + sz)) (hel : ec.length = sz) (hlen : o ≤ cs.length) (off : Nat) (hx : ev e x = some (.pointer (some ⟨b, o', none⟩))) (hy : ev e y = some v) (ho : o' = o + off) (ht : lst T.ty t = some (sz', agg))
 (hv : vcells v = some vs) (h1 : vs.all one1 = true) (hsz : Nat.beq vs.length sz' = true) (hcs : lay ec off vs = some ec')
 (k : ∀ a' w', Env a' n e → ec'.length = sz → Inv w0 G0 D0 G (L.set i (.row (.slice (some ⟨b, 0, none⟩) (setO xs j y').length c) te sz (setO xs j y').length (putAt cs o ec'))) w' → wpList P ops Q rest a' w') :
 wpList P ops Q (⟨none, .store t x y, ty, ps, af, g⟩ :: rest) a w :=
 s_storeR hT i hI hE hg hL hc hel hlen off hx hy ho ht hv h1 hsz hcs fun a' w' hE' h1 _ hI' => k a' w' hE' h1 (by rw [setO_len]; exact hI')
theorem sl_set {α : Type} {xs : List α} {j : Int} {y' : α} {A : Option Addr} {c : Nat} : Value.slice A xs.length c = .slice A (setO xs j y').length c := by rw [setO_len]
theorem s_make {te m : Nat} {l : Operand} {k1 : IntKind} {c : Int} {z : Value} (hA : AppI P t te 1) (hz : (P.info? te).bind (·.zero) = some z) (hz1 : one1 z = true) (hI : Inv w0 G0 D0 G L w) (hE : Env a n e) (hg : gd ops e g = some true) (hl : ev e l = some (.int k1 c)) (hc : c = (m : Int)) (hm : m ≤ 4294967296) (hd : Nat.blt d n = true)
 (k : ∀ a' w' b, Env a' n ((d, .slice (some ⟨b, 0, none⟩) m m) :: e) → Inv w0 G0 D0 G (.row (.slice (some ⟨b, 0, none⟩) m m) te 1 m (List.replicate m z) :: L) w' → wpList P ops Q rest a' w') :
 wpList P ops Q (⟨some d, .makeSlice t l l, ty, ps, af, g⟩ :: rest) a w := by
 obtain ⟨hu, ii, z', hi, hz', hs, hzs, h0, hby⟩ := hA
 have hzz : z' = z := by rw [hi] at hz; simp [hz'] at hz; exact hz
 subst hzz; subst hc
 obtain ⟨w', hr, ho, hgr⟩ := run_make_full (P := P) w 0 t te ii z' 1 hu hi hz' hs k1 k1 m (by have := Nat.mul_le_mul hby hm; omega) (by unfold maxLen; omega) (Nat.zero_le _)
 have hcells : z'.cells = #[z'] := by cases z' <;> simp_all [one1, Value.cells]
 rw [hcells, Nat.mul_one, toList_madeCells_one] at ho
 refine wpList_do (gd_wanted hE hg) (wp_val (w' := w') ?_ (k _ _ w.heap.size (hE.put hd _) ?_))
 · simp [execOp, hE.eval hl, hr]
 · have h1 : Inv w0 G0 D0 G (.row (.slice none 0 0) te 1 0 [] :: L) w := hI.nilrow te 1
   have := h1.turn 0 rfl (.row (.slice (some ⟨w.heap.size, 0, none⟩) m m) te 1 m (List.replicate m z')) hgr.os hgr.tape hgr.output hgr.size (fun k hk hne => hgr.block k hk (by simp)) ho (.inr ⟨_, rfl, Nat.le_refl _⟩)
   simpa using this
end
end Go.Proofs.YtknhbphhdfknaaaGreatDoor
