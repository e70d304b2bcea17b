import Derived.Test.YtknhbphhdfknaaaGreatDoorMd
set_option linter.unusedVariables false
set_option linter.unusedSimpArgs false
namespace Go.Proofs.YtknhbphhdfknaaaGreatDoor
open Go.RowKit
def Fr (wr : List Nat) (L L' : List Rs) : Prop := ∀ j, j < L.length → j ∉ wr → L'[j]? = L[j]?
theorem Fr.refl (wr : List Nat) (L : List Rs) : Fr wr L L := fun _ _ _ => rfl
theorem Fr.trans {u v : List Nat} {A B C : List Rs} (h : Fr u A B) (k : Fr v B C) : Fr (u ++ v) A C := fun j hj hn => by
 simp only [List.mem_append, not_or] at hn
 have h1 := h j hj hn.1
 have h2 : j < B.length := by
  rw [List.getElem?_eq_getElem hj] at h1
  exact (List.getElem?_eq_some_iff.1 h1).1
 exact (k j h2 hn.2).trans h1
structure Post (w0 : World) (G0 : GH) (D0 : List Nat) (G : GH) (n : Nat) (L : List Rs) (F : Fin) (a' : Act) (w' : World) (L' : List Rs) (e' : EL) : Prop where
 ext : Ext (L.map Rs.pl) (L'.map Rs.pl)
 hs : HS F.H F.sz L'
 fr : Fr F.wr L L'
 env : Env a' n e'
 es : ES F.E e' (L'.map Rs.pl)
 inv : Inv w0 G0 D0 G L' w'
noncomputable def mask (is : List Nat) (L : List Rs) : List Rs := L.mapIdx fun i r => bif hasN is i then r else dead
section
variable {w0 : World} {G0 G : GH} {D0 : List Nat}
theorem Post.trans {n : Nat} {L L1 L2 : List Rs} {F1 F2 : Fin} {a1 a2 : Act} {w1 w2 : World} {e1 e2 : EL} (h : Post w0 G0 D0 G n L F1 a1 w1 L1 e1) (k : Post w0 G0 D0 G n L1 F2 a2 w2 L2 e2) : Post w0 G0 D0 G n L { F2 with wr := F1.wr ++ F2.wr } a2 w2 L2 e2 :=
 ⟨h.ext.trans k.ext, k.hs, h.fr.trans k.fr, k.env, k.es, k.inv⟩
theorem joinF_eq {wr : List Nat} {r : R4} {x : Exit} {F : Fin} (h : joinF wr r = some (x, F)) : ∃ F0, r = some (x, F0) ∧ F = { F0 with wr := wr ++ F0.wr } := by
 unfold joinF at h
 split at h
 · cases h; exact ⟨_, rfl, rfl⟩
 · cases h
theorem sw_mask {is : List Nat} {L L0 : List Rs} {w : World} (h : Inv w0 G0 D0 G L w) (hk : ∀ i, hasN is i = true → L[i]? = L0[i]?) : Sw G (mask is L0) w := by
 have key : ∀ i r, (mask is L0)[i]? = some r → r = dead ∨ (L[i]? = some r ∧ hasN is i = true) := by
  intro i r hr
  simp only [mask, List.getElem?_mapIdx] at hr
  cases hb : hasN is i with
  | false => rw [hb] at hr; simp only [cond_false, Option.map_eq_some_iff] at hr; obtain ⟨_, _, rfl⟩ := hr; exact .inl rfl
  | true =>
   rw [hb] at hr; simp only [cond_true, Option.map_eq_some_iff] at hr
   obtain ⟨r', h1, rfl⟩ := hr
   exact .inr ⟨(hk i hb).trans h1, rfl⟩
 have df : ∀ b, b ∉ dead.foot := fun b hb => by simp [dead, Rs.foot] at hb
 have dok : dead.ok w := ⟨by simp, .nil⟩
 refine ⟨rfl, rfl, rfl, Nat.le_refl _, fun _ _ _ => rfl, GH.le.refl _, fun _ _ _ => rfl, h.inG, ?_, ?_, ?_⟩
 · intro r hr
   obtain ⟨i, hi⟩ := List.mem_iff_getElem?.1 hr
   rcases key i r hi with rfl | ⟨h1, _⟩
   · exact dok
   · exact h.ok r (List.mem_of_getElem? h1)
 · intro r hr b hb
   obtain ⟨i, hi⟩ := List.mem_iff_getElem?.1 hr
   rcases key i r hi with rfl | ⟨h1, _⟩
   · exact (df b hb).elim
   · exact ⟨(h.sep r (List.mem_of_getElem? h1) b hb).1, .inr (mem_feet.2 ⟨r, hr, hb⟩)⟩
 · have hd := h.dis
   rw [List.pairwise_iff_getElem] at hd ⊢
   intro i j hi hj hij b hb hb'
   rcases key i _ (List.getElem?_eq_getElem hi) with e1 | ⟨h1, _⟩
   · rw [e1] at hb; exact df b hb
   rcases key j _ (List.getElem?_eq_getElem hj) with e2 | ⟨h2, _⟩
   · rw [e2] at hb'; exact df b hb'
   obtain ⟨p1, q1⟩ := List.getElem?_eq_some_iff.1 h1
   obtain ⟨p2, q2⟩ := List.getElem?_eq_some_iff.1 h2
   exact hd i j p1 p2 hij b (by rw [q1]; exact hb) (by rw [q2]; exact hb')
theorem mask_at {is : List Nat} {L L0 : List Rs} {i : Nat} (hb : hasN is i = true) (hk : L[i]? = L0[i]?) : (mask is L0)[i]? = L[i]? := by
 simp only [mask, List.getElem?_mapIdx, hb, cond_true, hk]
 cases L0[i]? <;> rfl
theorem ext_apps (L L2 : List Rs) : Ext (L.map Rs.pl) ((L ++ L2).map Rs.pl) := fun i p hp => .inl (by
 obtain ⟨h1, h2⟩ := List.getElem?_eq_some_iff.1 hp
 rw [List.map_append, List.getElem?_append_left h1]; exact hp)
theorem shP_cons0 (p : Nat) (σ : List Nat) (b : Nat) : shP (p :: σ) b 0 = p := rfl
theorem shP_cons (p : Nat) (σ : List Nat) (b i : Nat) : shP (p :: σ) b (i + 1) = shP σ b i := rfl
theorem shP_at {L L2 : List Rs} : ∀ {σ : List Nat} {Ls : List Rs}, pickL σ L = some Ls → ∀ (i : Nat) (p : Pl), ((Ls ++ L2).map Rs.pl)[i]? = some p → ((L ++ L2).map Rs.pl)[shP σ L.length i]? = some p
 | [], Ls, h, i, p, hp => by
  simp only [pickL, Option.some.injEq] at h
  subst h
  show ((L ++ L2).map Rs.pl)[L.length + i]? = some p
  rw [List.map_append, List.getElem?_append_right (by simp), List.length_map, Nat.add_sub_cancel_left]
  simpa using hp
 | q :: σ, Ls, h, i, p, hp => by
  simp only [pickL] at h
  split at h
  · rename_i r l h1 h2
    cases h
    cases i with
    | zero =>
     simp at hp
     rw [shP_cons0, List.map_append, List.getElem?_append_left (by simpa using (List.getElem?_eq_some_iff.1 h1).1), List.getElem?_map, h1]
     simp [hp]
    | succ i => rw [shP_cons]; exact shP_at h2 i p (by simpa using hp)
  · cases h
theorem shV_agg (f : Nat → Nat) (l : List AV) : shV f (.agg l) = .agg (l.map (shV f)) := by
 show AV.agg _ = _
 congr 1
 induction l with
 | nil => rfl
 | cons v l ih => exact congrArg (shV f v :: ·) ih
theorem shV_tup (f : Nat → Nat) (l : List AV) : shV f (.tup l) = .tup (l.map (shV f)) := by
 show AV.tup _ = _
 congr 1
 induction l with
 | nil => rfl
 | cons v l ih => exact congrArg (shV f v :: ·) ih
theorem shV_fn (f : Nat → Nat) (g : Nat) (l : List AV) : shV f (.fn g l) = .fn g (l.map (shV f)) := by
 show AV.fn g _ = _
 congr 1
 induction l with
 | nil => rfl
 | cons v l ih => exact congrArg (shV f v :: ·) ih
theorem shV_ifc (f : Nat → Nat) (g : Nat) (l : List AV) : shV f (.ifc g l) = .ifc g (l.map (shV f)) := by
 show AV.ifc g _ = _
 congr 1
 induction l with
 | nil => rfl
 | cons v l ih => exact congrArg (shV f v :: ·) ih
section
variable {ps ps' : List Pl} {f : Nat → Nat}
mutual
theorem RV.sh (h : ∀ (i : Nat) (p : Pl), ps[i]? = some p → ps'[f i]? = some p) : ∀ (v : AV) {r : Value}, RV ps v r → RV ps' (shV f v) r
 | .dat _, _, k => by show RV ps' (.dat _) _; simp only [RV] at k ⊢; exact k
 | .ptr i o, r, k => by
  show RV _ (.ptr (f i) o) r
  simp only [RV] at k ⊢; obtain ⟨b, k1, k2⟩ := k; exact ⟨b, h _ _ k1, k2⟩
 | .pel i o, r, k => by
  show RV _ (.pel (f i) o) r
  simp only [RV] at k ⊢
  rcases k with ⟨g, c, k1, k2⟩ | ⟨k1, k2⟩
  · exact .inl ⟨g, c, h _ _ k1, k2⟩
  · exact .inr ⟨h _ _ k1, k2⟩
 | .sl i lo n sz, r, k => by
  show RV _ (.sl (f i) lo n sz) r
  simp only [RV] at k ⊢
  rcases k with ⟨A, c, A', c', k1, k2⟩ | ⟨k1, k2⟩
  · exact .inl ⟨A, c, A', c', h _ _ k1, k2⟩
  · exact .inr ⟨h _ _ k1, k2⟩
 | .mp i, r, k => by
  show RV _ (.mp (f i)) r
  simp only [RV] at k ⊢; obtain ⟨m, k1, k2⟩ := k; exact ⟨m, h _ _ k1, k2⟩
 | .agg l, r, k => by
  rw [shV_agg]
  simp only [RV] at k ⊢
  obtain ⟨rs, k1, k2⟩ := k; exact ⟨rs, k1, RVs.sh h l k2⟩
 | .tup l, r, k => by
  rw [shV_tup]
  simp only [RV] at k ⊢
  obtain ⟨rs, k1, k2⟩ := k; exact ⟨rs, k1, RVs.sh h l k2⟩
 | .fn g l, r, k => by
  rw [shV_fn]
  simp only [RV] at k ⊢
  obtain ⟨rs, k1, k2⟩ := k; exact ⟨rs, k1, RVs.sh h l k2⟩
 | .ifc g l, r, k => by
  rw [shV_ifc]
  simp only [RV] at k ⊢
  obtain ⟨q, k1, k2⟩ := k; exact ⟨q, k1, RVs.sh h l k2⟩
theorem RVs.sh (h : ∀ (i : Nat) (p : Pl), ps[i]? = some p → ps'[f i]? = some p) : ∀ (l : List AV) {rs : List Value}, RVs ps l rs → RVs ps' (l.map (shV f)) rs
 | [], _, k => by simp only [List.map_nil, RVs] at k ⊢; exact k
 | v :: l, rs, k => by
  simp only [List.map_cons, RVs] at k ⊢
  obtain ⟨r, rs', k1, k2, k3⟩ := k
  exact ⟨r, rs', k1, RV.sh h v k2, RVs.sh h l k3⟩
end
theorem RO.sh (h : ∀ (i : Nat) (p : Pl), ps[i]? = some p → ps'[f i]? = some p) {o : AO} {s : Rs} (k : RO ps o s) : RO ps' (shO f o) s := by
 cases o with
 | gone => simp only [shO, RO]
 | mp kvs => cases s <;> simp only [shO, RO] at k ⊢; exact k
 | blk T l => cases s <;> simp only [shO, RO] at k ⊢; exact ⟨k.1, RVs.sh h _ k.2⟩
 | row te sz n l => cases s <;> simp only [shO, RO] at k ⊢; exact ⟨k.1, k.2.1, k.2.2.1, k.2.2.2.1, RVs.sh h _ k.2.2.2.2⟩
end
theorem addO_get {b : Nat} {f : Nat → Nat} {H : Trie AO} : ∀ {os : List (Nat × AO)} {i : Nat} {o : AO}, (addO b f H os).get i = some o → (∃ j o', (j, o') ∈ os ∧ i = b + j ∧ o = shO f o') ∨ H.get i = some o
 | [], i, o, h => .inr h
 | (j, o') :: l, i, o, h => by
  rcases Trie.get_set _ _ _ _ _ _ h with ⟨h1, h2⟩ | ⟨_, h2⟩
  · exact .inl ⟨j, o', List.mem_cons_self, h1, h2⟩
  · rcases addO_get h2 with ⟨j, o', h3, h4⟩ | h3
    · exact .inl ⟨j, o', List.mem_cons_of_mem _ h3, h4⟩
    · exact .inr h3
def KOk (P : Program) (G : GH) (KT : KTab) : Prop := ∀ g vs H x, KT g vs H = some x → Callable P g ∧ ∀ (w0 : World) (G0 : GH) (D0 : List Nat) (L : List Rs) (sz : Nat) (w : World) (rs : List Value), Inv w0 G0 D0 G L w → HS H sz L → RVs (L.map Rs.pl) vs rs →
 Calls P g ⟨rs⟩ w fun e' w' => ∃ r Ls L2, e' = .returned r ∧ pickL x.1 L = some Ls ∧ L2.length = x.2.n ∧ RV ((Ls ++ L2).map Rs.pl) x.2.v r ∧ (∀ j o, (j, o) ∈ x.2.os → ∃ s, L2[j]? = some s ∧ RO ((Ls ++ L2).map Rs.pl) o s) ∧ Inv w0 G0 D0 G (L ++ L2) w'
theorem HS.addO {H : Trie AO} {sz : Nat} {L Ls L2 : List Rs} {σ : List Nat} {u : Kn} (h : HS H sz L) (hs : pickL σ L = some Ls) (hn : L2.length = u.n) (hk : ∀ j o, (j, o) ∈ u.os → ∃ s, L2[j]? = some s ∧ RO ((Ls ++ L2).map Rs.pl) o s) : HS (addO sz (shP σ sz) H u.os) (sz + u.n) (L ++ L2) := by
 refine ⟨by simp [h.len, hn], fun i o hi => ?_⟩
 rcases addO_get hi with ⟨j, o', h1, rfl, rfl⟩ | h1
 · obtain ⟨s, h2, h3⟩ := hk j o' h1
   refine ⟨s, by rw [← h.len, List.getElem?_append_right (by omega), Nat.add_sub_cancel_left]; exact h2, ?_⟩
   rw [← h.len]
   exact RO.sh (shP_at hs) h3
 · obtain ⟨s, h2, h3⟩ := h.obj i o h1
   exact ⟨s, by rw [List.getElem?_append_left (List.getElem?_eq_some_iff.1 h2).1]; exact h2, h3.mono (ext_apps L L2)⟩
variable {T : Tab} {P : Program} {OT : OTab} {KT : KTab}
def Good (P : Program) (w0 : World) (G0 : GH) (D0 : List Nat) (G : GH) (k : Nat) (t : Tk) (n : Nat) (E : Trie AV) (x : Exit) (F : Fin) (L : List Rs) (w : World) : Prop :=
 match t with
 | .code c => ∀ e a (Q : Exit → Act → World → Prop), Env a n e → ES E e (L.map Rs.pl) → (∀ a' w' L' e', Post w0 G0 D0 G n L F a' w' L' e' → Q x a' w') → c.wp P Q a w
 | .rounds c => ∀ e a (Q : Exit → Act → World → Prop), Env a n e → ES E e (L.map Rs.pl) → (∀ a' w' L' e', Post w0 G0 D0 G n L F a' w' L' e' → Q x a' w') → Code.rounds P c Q k a w
 | .again l c r => findLabel c l = some r → ∀ e a (Q : Exit → Act → World → Prop), Env a n e → ES E e (L.map Rs.pl) → (∀ a' w' L' e', Post w0 G0 D0 G n L F a' w' L' e' → Q x a' w') → OkS P c r Q a w
 | .op all o => ∀ e a (Q : Exit → Act → World → Prop) rest, Env a n e → ES E e (L.map Rs.pl) → gd all e o.guard = some true → (∀ a' w' L' e', Post w0 G0 D0 G n L F a' w' L' e' → wpList P all Q rest a' w') → wpList P all Q (o :: rest) a w
 | .ops all l => ∀ e a (Q : Exit → Act → World → Prop), Env a n e → ES E e (L.map Rs.pl) → (∀ a' w' L' e', Post w0 G0 D0 G n L F a' w' L' e' → Q .normal a' w') → wpList P all Q l a w
 | .mix all is cl o => ∀ e a (Q : Exit → Act → World → Prop) L0, Env a n e → ES E e (L.map Rs.pl) → (∀ i, hasN is i = true → i < L.length) → (cl = true → ∀ i, hasN is i = true → L[i]? = L0[i]?) → (∀ a' w' L' e', Post w0 G0 D0 G n L F a' w' L' e' → Q .normal a' w') → wpMix P all Q (Sw G (mask is L0)) o a w
 | .call g vs => Callable P g ∧ ∀ rs, RVs (L.map Rs.pl) vs rs → Calls P g ⟨rs⟩ w fun e' w' => ∃ r L', e' = .returned r ∧ RV (L'.map Rs.pl) F.v r ∧ Ext (L.map Rs.pl) (L'.map Rs.pl) ∧ HS F.H F.sz L' ∧ Fr F.wr L L' ∧ Inv w0 G0 D0 G L' w'
def Sd (P : Program) (G : GH) (k : Nat) (rec : G4) : Prop := ∀ (w0 : World) (G0 : GH) (D0 : List Nat) t f n E H sz x F, rec t f n E H sz = some (x, F) → ∀ L w, Inv w0 G0 D0 G L w → HS H sz L → Good P w0 G0 D0 G k t n E x F L w
theorem gNorm_eq {r : R4} {x : Exit} {F : Fin} (h : gNorm r = some (x, F)) : x = .normal ∧ ∃ x0, r = some (x0, F) := by
 unfold gNorm at h
 split at h
 · cases h; exact ⟨rfl, _, rfl⟩
 · cases h
theorem fin0_eq {x x' : Exit} {E : Trie AV} {H : Trie AO} {sz : Nat} {F : Fin} (h : fin0 x E H sz = some (x', F)) : x' = x ∧ F = ⟨E, H, sz, [], .tup []⟩ := by
 cases h; exact ⟨rfl, rfl⟩
theorem post0 {n : Nat} {L : List Rs} {E : Trie AV} {H : Trie AO} {sz : Nat} {v : AV} {a : Act} {w : World} {e : EL} (hI : Inv w0 G0 D0 G L w) (hH : HS H sz L) (hE : Env a n e) (hR : ES E e (L.map Rs.pl)) : Post w0 G0 D0 G n L ⟨E, H, sz, [], v⟩ a w L e :=
 ⟨Ext.refl _, hH, Fr.refl _ _, hE, hR, hI⟩
theorem okS_step {c r : Code} {Q : Exit → Act → World → Prop} {a : Act} {l : Nat} {w : World} (hf : findLabel c l = some r) (h : r.wp P (Exit.jump l (OkS P c r Q) Q) a w) : OkS P c r Q a w := by
 intro b k cs
 have hg : gotoIn l (.inScope c :: k) = some (.code r :: .inScope c :: k) := by simp [gotoIn, hf]
 obtain ⟨e, a₁, w₁, hq, harr⟩ := h b (.inScope c :: k) cs
 cases e with
 | normal => exact ⟨.normal, a₁, w₁, hq, Steps.trans harr (.one step_inScope)⟩
 | exit id => exact ⟨.exit id, a₁, w₁, hq, fun k' hk => harr k' (by simp [exitTo, hk])⟩
 | goto l' =>
  obtain ⟨rfl, hJ⟩ := hq
  obtain ⟨e₂, a₂, w₂, hq₂, harr₂⟩ := hJ b k cs
  exact ⟨e₂, a₂, w₂, hq₂, .of_steps (harr _ hg) harr₂⟩
 | ret => exact ⟨_, a₁, w₁, hq, harr⟩
 | panic ch => exact ⟨_, a₁, w₁, hq, harr⟩
 | outgrown => exact ⟨_, a₁, w₁, hq, harr⟩
theorem s_get {n : Nat} {all : Array Oper} {Q : Exit → Act → World → Prop} {rest : List Oper} {E : Trie AV} {H : Trie AO} {sz : Nat} {L : List Rs} {w : World} {e : EL} {a : Act} {o : Oper} {d : Nat} {v : AV} (hT : T.Ok P) (hI : Inv w0 G0 D0 G L w) (hH : HS H sz L) (hE : Env a n e) (hR : ES E e (L.map Rs.pl))
 (hg : gd all e o.guard = some true) (hd : o.dst = some d) (hb : Nat.blt d n = true) (h : pevF o.op T P E H = some v ∨ rdF o.op T P E H = some v)
 (k : ∀ a' r, Env a' n ((d, r) :: e) → ES (Trie.set 40 E d v) ((d, r) :: e) (L.map Rs.pl) → wpList P all Q rest a' w) : wpList P all Q (o :: rest) a w := by
 obtain ⟨dst, op, ty, ps, af, g⟩ := o
 obtain rfl : dst = some d := hd
 rcases h with h | h
 · obtain ⟨r, h1, h2⟩ := pevA_run (C := fun _ => True) (n := n) hT hH hR (pevF_sub h)
   exact s_rt trivial hE hg h2 hb fun a' hE' => k a' r hE' (hR.put h1)
 · dsimp only at h
   rw [rdF_eq] at h
   obtain ⟨r, h1, h2⟩ := rdA_run (L0 := L) hT hH hE hR h (fun _ _ => rfl)
   exact s_rt hI hE hg (h2 w0 G0 D0) hb fun a' hE' => k a' r hE' (hR.put h1)
theorem s_skp {n : Nat} {all : Array Oper} {Q : Exit → Act → World → Prop} {rest : List Oper} {E : Trie AV} {ps : List Pl} {w : World} {e : EL} {a : Act} {o : Oper} {d : Nat} (hE : Env a n e) (hR : ES E e ps)
 (hg : gd all e o.guard = some false) (hd : o.dst = some d) (hb : Nat.blt d n = true)
 (k : ∀ a' e', Env a' n e' → ES (Trie.set 40 E d (.dat undef)) e' ps → wpList P all Q rest a' w) : wpList P all Q (o :: rest) a w := by
 refine wpList_no (gd_wanted hE hg) ?_
 rw [hd]
 exact k _ _ (hE.put hb undef) (hR.put RV.dat)
theorem stepB_run {n : Nat} {all : Array Oper} {Q : Exit → Act → World → Prop} {rest : List Oper} {E E' : Trie AV} {H : Trie AO} {sz : Nat} {L : List Rs} {w : World} {e : EL} {a : Act} {o : Oper} (hT : T.Ok P) (hI : Inv w0 G0 D0 G L w) (hH : HS H sz L) (hE : Env a n e) (hR : ES E e (L.map Rs.pl))
 (h : stepB o T P all n H E = some E') (k : ∀ a' e', Env a' n e' → ES E' e' (L.map Rs.pl) → wpList P all Q rest a' w) : wpList P all Q (o :: rest) a w := by
 unfold stepB at h
 cases hg : gdF all E o.guard with
 | none => rw [hg] at h; cases h
 | some b =>
  have hg' : gd all e o.guard = some b := gd_of hR (by rw [← gdF_eq]; exact hg)
  rw [hg] at h
  dsimp only at h
  cases hd : o.dst with
  | none =>
   rw [hd] at h
   dsimp only at h
   cases b with
   | true => cases h
   | false =>
    cases h
    refine wpList_no (gd_wanted hE hg') ?_
    rw [hd]
    exact k _ e (hE.put_none _) hR
  | some d =>
   rw [hd] at h
   dsimp only at h
   cases hb : Nat.blt d n with
   | false => rw [hb] at h; cases h
   | true =>
    rw [hb] at h
    dsimp only at h
    cases b with
    | false => cases h; exact s_skp hE hR hg' hd hb k
    | true =>
     dsimp only [sB2, sB3] at h
     cases hp : pevF o.op T P E H with
     | some v =>
      rw [hp] at h; cases h
      exact s_get hT hI hH hE hR hg' hd hb (.inl hp) fun a' r => k a' _
     | none =>
      rw [hp] at h
      dsimp only at h
      cases hq : rdF o.op T P E H with
      | none => rw [hq] at h; cases h
      | some v =>
       rw [hq] at h; cases h
       exact s_get hT hI hH hE hR hg' hd hb (.inr hq) fun a' r => k a' _
theorem runB_run {n : Nat} {all : Array Oper} {Q : Exit → Act → World → Prop} {H : Trie AO} {sz : Nat} {L : List Rs} {w : World} (hT : T.Ok P) (hI : Inv w0 G0 D0 G L w) (hH : HS H sz L) : ∀ {l l' : List Oper} {E E' : Trie AV} {e : EL} {a : Act}, Env a n e → ES E e (L.map Rs.pl) →
 runB l T P all n H E = (E', l') → (∀ a' e', Env a' n e' → ES E' e' (L.map Rs.pl) → wpList P all Q l' a' w) → wpList P all Q l a w
 | [], l', E, E', e, a, hE, hR, h, k => by
  cases (show (E, ([] : List Oper)) = (E', l') from h)
  exact k a e hE hR
 | o :: r, l', E, E', e, a, hE, hR, h, k => by
  have h : Option.rec (motive := fun _ => Trie AV × List Oper) (E, o :: r) (fun E' => runB r T P all n H E') (stepB o T P all n H E) = (E', l') := h
  cases hs : stepB o T P all n H E with
  | none => rw [hs] at h; cases h; exact k a e hE hR
  | some E1 =>
   rw [hs] at h
   exact stepB_run hT hI hH hE hR hs fun a' e' hE' hR' => runB_run hT hI hH hE' hR' h k
end
end Go.Proofs.YtknhbphhdfknaaaGreatDoor
