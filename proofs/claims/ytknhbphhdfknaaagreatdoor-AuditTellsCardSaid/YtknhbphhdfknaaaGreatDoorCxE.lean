import Derived.Test.YtknhbphhdfknaaaGreatDoorCxD
import Derived.Maps.AppendAt
set_option linter.unusedVariables false
set_option linter.unusedSimpArgs false
namespace Go.Proofs.YtknhbphhdfknaaaGreatDoor
open Go.RowKit
def RL (G : GH) (sz : Nat) : List D → List Value → Prop
 | [], cs => cs = []
 | d :: ds, cs => ∃ c1 c2, cs = c1 ++ c2 ∧ c1.length = sz ∧ Rep G d c1 ∧ RL G sz ds c2
theorem RL.nil {G : GH} {sz : Nat} : RL G sz [] [] := by simp only [RL]
theorem RL.cons {G : GH} {sz : Nat} {d : D} {ds : List D} {c cs : List Value} (h : Rep G d c) (hl : c.length = sz) (k : RL G sz ds cs) : RL G sz (d :: ds) (c ++ cs) := by
 simp only [RL]; exact ⟨c, cs, rfl, hl, h, k⟩
theorem RL.append {G : GH} {sz : Nat} : ∀ {xs ys : List D} {c1 c2 : List Value}, RL G sz xs c1 → RL G sz ys c2 → RL G sz (xs ++ ys) (c1 ++ c2)
 | [], ys, c1, c2, h, k => by simp only [RL] at h; subst h; exact k
 | d :: ds, ys, c1, c2, h, k => by
  simp only [RL] at h
  obtain ⟨a, b, rfl, h1, h2, h3⟩ := h
  rw [List.append_assoc]
  exact RL.cons h2 h1 (RL.append h3 k)
theorem RL.appm {G : GH} {sz : Nat} {α : Type} {f : α → D} {xs ys : List α} {c1 c2 : List Value} (h : RL G sz (xs.map f) c1) (k : RL G sz (ys.map f) c2) : RL G sz ((xs ++ ys).map f) (c1 ++ c2) := by
 rw [List.map_append]; exact RL.append h k
theorem RL.mono {G G' : GH} (hg : G.le G') {sz : Nat} : ∀ {xs : List D} {cs : List Value}, RL G sz xs cs → RL G' sz xs cs
 | [], _, h => by simpa only [RL] using h
 | d :: ds, _, h => by
  simp only [RL] at h ⊢
  obtain ⟨a, b, h0, h1, h2, h3⟩ := h
  exact ⟨a, b, h0, h1, h2.mono hg, RL.mono hg h3⟩
theorem RL.length {G : GH} {sz : Nat} : ∀ {xs : List D} {cs : List Value}, RL G sz xs cs → cs.length = xs.length * sz
 | [], _, h => by simp only [RL] at h; subst h; simp
 | d :: ds, _, h => by
  simp only [RL] at h
  obtain ⟨a, b, rfl, h1, h2, h3⟩ := h
  have := RL.length h3
  simp [Nat.succ_mul, this, h1]; omega
theorem RL.at_ {G : GH} {sz : Nat} : ∀ {xs : List D} {cs : List Value}, RL G sz xs cs → ∀ i (hi : i < xs.length), ∃ c, c.length = sz ∧ Rep G xs[i] c ∧ ∀ j, j < sz → cs[i * sz + j]? = c[j]?
 | [], _, _, i, hi => by simp at hi
 | d :: ds, _, h, i, hi => by
  simp only [RL] at h
  obtain ⟨a, b, rfl, h1, h2, h3⟩ := h
  cases i with
  | zero => refine ⟨a, h1, h2, fun j hj => ?_⟩; rw [Nat.zero_mul, Nat.zero_add, List.getElem?_append_left (by omega)]
  | succ i =>
   obtain ⟨c, g1, g2, g3⟩ := RL.at_ h3 i (by simpa using hi)
   refine ⟨c, g1, by simpa using g2, fun j hj => ?_⟩
   have e : (i + 1) * sz + j = a.length + (i * sz + j) := by rw [Nat.succ_mul, h1]; omega
   rw [e, List.getElem?_append_right (by omega), Nat.add_sub_cancel_left]
   exact g3 j hj
theorem RL.of_at {G : GH} {b sz : Nat} : ∀ (xs : List D) {o : Nat}, RepE G b sz xs o → ∃ cs, RL G sz xs cs ∧ At G b o cs
 | [], _, _ => ⟨[], RL.nil, fun j hj => by simp at hj⟩
 | d :: ds, o, h => by
  simp only [RepE] at h
  obtain ⟨⟨c, h1, h2, h3⟩, h4⟩ := h
  obtain ⟨cs, k1, k2⟩ := RL.of_at ds h4
  refine ⟨c ++ cs, RL.cons h2 h1 k1, fun j hj => ?_⟩
  by_cases hlt : j < c.length
  · rw [List.getElem?_append_left hlt]; exact h3 j hlt
  · rw [List.getElem?_append_right (by omega)]
    have := k2 (j - c.length) (by simp at hj; omega)
    rw [← this, h1]
    congr 1; omega
theorem Sl.row {G : GH} {A : Option Addr} {c sz : Nat} {xs : List D} (h : Sl G A c sz xs) : ∃ cs, RL G sz xs cs ∧ (xs = [] ∨ ∃ b o, A = some ⟨b, o, none⟩ ∧ At G b o cs) := by
 rcases h.2.2 with h1 | ⟨b, o, h1, h2⟩
 · subst h1; exact ⟨[], RL.nil, .inl rfl⟩
 · obtain ⟨cs, k1, k2⟩ := RL.of_at xs h2
   exact ⟨cs, k1, .inr ⟨b, o, h1, k2⟩⟩
mutual
theorem Rep.one {G : GH} : ∀ (d : D) {cs : List Value}, Rep G d cs → ∀ u, u ∈ cs → u.oneCell' = true
 | .int _ _, _, h => by simp only [Rep] at h; subst h; simp [Value.oneCell']
 | .bool _, _, h => by simp only [Rep] at h; subst h; simp [Value.oneCell']
 | .str _, _, h => by simp only [Rep] at h; subst h; simp [Value.oneCell']
 | .cx _ _, _, h => by simp only [Rep] at h; subst h; simp [Value.oneCell']
 | .st fs, _, h => by simp only [Rep] at h; exact RepF.one fs h
 | .sl _ _, _, h => by simp only [Rep] at h; obtain ⟨A, c, rfl, _⟩ := h; simp [Value.oneCell']
 | .nul, _, h => by simp only [Rep] at h; subst h; simp [Value.oneCell']
 | .pt _ _, _, h => by simp only [Rep] at h; obtain ⟨b, c, rfl, _⟩ := h; simp [Value.oneCell']
 | .mp _ _, _, h => by simp only [Rep] at h; obtain ⟨b, c, d, rfl, _⟩ := h; simp [Value.oneCell']
theorem RepF.one {G : GH} : ∀ (ds : List D) {cs : List Value}, RepF G ds cs → ∀ u, u ∈ cs → u.oneCell' = true
 | [], _, h => by simp only [RepF] at h; subst h; simp
 | d :: ds, _, h => by
  simp only [RepF] at h
  obtain ⟨a, b, rfl, h1, h2⟩ := h
  intro u hu
  rcases List.mem_append.1 hu with hu | hu
  · exact Rep.one d h1 u hu
  · exact RepF.one ds h2 u hu
end
theorem RL.one {G : GH} {sz : Nat} : ∀ {xs : List D} {cs : List Value}, RL G sz xs cs → ∀ u, u ∈ cs → u.oneCell' = true
 | [], _, h => by simp only [RL] at h; subst h; simp
 | d :: ds, _, h => by
  simp only [RL] at h
  obtain ⟨a, b, rfl, h1, h2, h3⟩ := h
  intro u hu
  rcases List.mem_append.1 hu with hu | hu
  · exact Rep.one d h2 u hu
  · exact RL.one h3 u hu
section
variable {w0 w w' : World} {G0 G G' : GH} {D0 : List Nat} {L L' : List Rs}
theorem Inv.nilrow (h : Inv w0 G0 D0 G L w) (e sz : Nat) : Inv w0 G0 D0 G (.row (.slice none 0 0) e sz 0 [] :: L) w :=
 ⟨h.os, h.tape, h.output, h.size, h.fr, h.le, h.fresh, h.inG, fun r hr => by
  rcases List.mem_cons.1 hr with rfl | hr
  · exact World.ownsRow_nil w 0 e sz
  · exact h.ok r hr, fun r hr b hb => by
  rcases List.mem_cons.1 hr with rfl | hr
  · simp [Rs.foot, Value.ownBlock] at hb
  · exact h.sep r hr b hb, List.pairwise_cons.2 ⟨fun s hs b hb => by simp [Rs.foot, Value.ownBlock] at hb, h.dis⟩⟩
def front (i : Nat) (L : List Rs) : List Rs := match L[i]? with
 | some r => r :: L.eraseIdx i
 | none => L
theorem front_perm (i : Nat) (L : List Rs) : (front i L).Perm L := by
 unfold front
 split
 · rename_i r hr
   obtain ⟨hi, hr'⟩ := List.getElem?_eq_some_iff.1 hr
   have h1 : L = L.take i ++ r :: L.drop (i + 1) := by
    rw [← hr']; simp
   have h2 : L.eraseIdx i = L.take i ++ L.drop (i + 1) := List.eraseIdx_eq_take_drop_succ ..
   rw [h2]
   conv => rhs; rw [h1]
   exact List.perm_middle.symm
 · exact List.Perm.refl _
theorem Inv.front (h : Inv w0 G0 D0 G L w) (i : Nat) : Inv w0 G0 D0 G (front i L) w := h.perm (front_perm i L)
theorem Inv.give {r : Rs} (h : Inv w0 G0 D0 G (r :: L) w) {b : Nat} {o : Obj} (hf : b ∈ r.foot) (ho : w.heap[b]? = some o) : G.le (G.with b o) ∧ Inv w0 G0 D0 (G.with b o) L w := by
 have hs := h.sep r List.mem_cons_self b hf
 have hle := GH.le_with (o := o) hs.1
 refine ⟨hle, h.os, h.tape, h.output, h.size, h.fr, h.le.trans hle, ?_, ?_, fun s hs' => h.ok s (List.mem_cons_of_mem _ hs'), ?_, (List.pairwise_cons.1 h.dis).2⟩
 · intro k hk hD
   have : k ≠ b := by rintro rfl; rcases hs.2 with h1 | h1; omega; exact hD h1
   simp only [GH.with, if_neg this]; exact h.fresh k hk hD
 · intro k x hk
   unfold GH.with at hk
   split at hk
   · subst_vars; cases hk; exact ho
   · exact h.inG k x hk
 · intro s hs' c hc
   obtain ⟨h1, h2⟩ := h.sep s (List.mem_cons_of_mem _ hs') c hc
   have : c ≠ b := by rintro rfl; exact (List.pairwise_cons.1 h.dis).1 s hs' c hf hc
   refine ⟨?_, h2⟩
   simp only [GH.with, if_neg this]; exact h1
theorem Inv.giveB {b : Nat} {cs : List Value} {T : Nat} (h : Inv w0 G0 D0 G (.blk b cs T :: L) w) : ∃ G', G.le G' ∧ Inv w0 G0 D0 G' L w ∧ At G' b 0 cs := by
 have hb : w.heap[b]? = some (.cells cs.toArray T (0, 0)) := h.ok _ List.mem_cons_self
 obtain ⟨h1, h2⟩ := h.give (by simp [Rs.foot]) hb
 refine ⟨_, h1, h2, fun j hj => ?_⟩
 simp [GH.cell, GH.with]
theorem Inv.giveR {A : Option Addr} {c e sz : Nat} {xs : List D} {n : Nat} {cs : List Value} (h : Inv w0 G0 D0 G (.row (.slice A n c) e sz n cs :: L) w) (hn : n = xs.length) (hr : RL G sz xs cs) : ∃ G', G.le G' ∧ Inv w0 G0 D0 G' L w ∧ Sl G' A c sz xs := by
 subst hn
 have hok : w.ownsRow 0 e sz (.slice A xs.length c) xs.length cs := h.ok _ List.mem_cons_self
 rcases hok.2 with ⟨hv, h0⟩ | ⟨g, cap, cur, hv, _, hg, hnc, hcm, hsz, htk⟩
 · injection hv with h1 h2 h3
   subst h3
   have hx : xs = [] := List.eq_nil_of_length_eq_zero h0
   subst hx
   exact ⟨G, GH.le.refl _, h.sub (List.sublist_cons_self _ _), Sl.nil _ _ _ _ (by unfold maxLen; omega)⟩
 · injection hv with h1 h2 h3
   subst h1; subst h3
   obtain ⟨k1, k2⟩ := h.give (r := .row (.slice (some ⟨g, 0, none⟩) xs.length c) e sz xs.length cs) (b := g) (by simp [Rs.foot, Value.ownBlock]) hg
   refine ⟨_, k1, k2, hnc, hcm, ?_⟩
   by_cases hx : xs = []
   · exact .inl hx
   · refine .inr ⟨g, 0, rfl, RepE.of_at _ fun i hi => ?_⟩
     obtain ⟨c', g1, g2, g3⟩ := hr.at_ i hi
     refine ⟨c', g1, g2.mono k1, fun j hj => ?_⟩
     rw [← g3 j (by omega), ← htk]
     have hb : i * sz + j < xs.length * sz := by
      have : (i + 1) * sz ≤ xs.length * sz := Nat.mul_le_mul_right sz (by omega)
      rw [Nat.succ_mul] at this; omega
     simp [GH.cell, GH.with, hb]
end
def AppI (P : Program) (t e sz : Nat) : Prop := P.underlying t = some (.slice e) ∧ ∃ i z, P.info? e = some i ∧ i.zero = some z ∧ i.size = sz ∧ z.cells.size = sz ∧ 0 < sz ∧ i.bytes ≤ 32768
def chkApp (P : Program) (t e sz : Nat) : Bool :=
 match P.underlying t, P.info? e with
 | some (.slice e'), some i => match i.zero with
  | some z => Nat.beq e' e && Nat.beq i.size sz && Nat.beq z.cells.size sz && Nat.blt 0 sz && Nat.ble i.bytes 32768
  | none => false
 | _, _ => false
theorem app_of {P : Program} {t e sz : Nat} (h : chkApp P t e sz = true) : AppI P t e sz := by
 unfold chkApp at h
 split at h
 · rename_i e' i hu hi
   split at h
   · rename_i z hz
     simp only [Bool.and_eq_true] at h
     obtain ⟨⟨⟨⟨h1, h2⟩, h3⟩, h4⟩, h5⟩ := h
     have h1 := Nat.eq_of_beq_eq_true h1
     subst h1
     refine ⟨hu, i, z, hi, hz, Nat.eq_of_beq_eq_true h2, Nat.eq_of_beq_eq_true h3, by simpa using h4, Nat.le_of_ble_eq_true h5⟩
   · cases h
 · cases h
theorem own_form {w : World} {base n : Nat} {e : TypeId} {size : Nat} {v : Value} {xs : List Value} (h : w.ownsRow base e size v n xs) : ∃ A c, v = .slice A n c := by
 rcases h.2 with ⟨rfl, rfl⟩ | ⟨g, cap, cur, rfl, _⟩
 · exact ⟨none, 0, rfl⟩
 · exact ⟨_, cap, rfl⟩
section
variable {T : Tab} {P : Program} {n : Nat} {ops : Array Oper} {Q : Exit → Act → World → Prop} {w w0 : World} {G0 G : GH} {D0 : List Nat} {L L1 : List Rs} {e : EL} {a : Act} {rest : List Oper}
variable {d ty : Nat} {ps : String} {af : Array Edge} {g : Option (Nat × Bool)}
theorem append_run {t te sz m : Nat} {v : Value} {nn : Nat} {xs news : List Value} {x : Operand} {y : Operand} {ba : Addr} {c : Nat} (hA : AppI P t te sz) (i : Nat) (hI : Inv w0 G0 D0 G L w) (hL : L[i]? = some (.row v te sz nn xs))
 (hl : news.length = m * sz) (hnews : ∀ j u, news[j]? = some u → w.cell? (ba.add j) = some u) (h1 : ∀ u, u ∈ news → u.oneCell' = true) (hb : nn + m ≤ 4294967296) :
 ∃ A' c' w', (Builtin.append_ #[t, t] ty #[v, .slice (some ba) m c]).run P w = .ok (.slice A' (nn + m) c') w' ∧ Inv w0 G0 D0 G (L.set i (.row (.slice A' (nn + m) c') te sz (nn + m) (xs ++ news))) w' := by
 obtain ⟨hu, ii, z, hi, hz, hs, hzs, h0, hby⟩ := hA
 have hown : w.ownsRow 0 te sz v nn xs := hI.ok _ (List.mem_of_getElem? hL)
 obtain ⟨v', w', hr, ho, hg, _, hat⟩ := run_append_own_at (P := P) w 0 t ty te ii z sz ii.bytes hu hi hz hs rfl hzs h0 v nn xs hown ba m c news hl hnews h1 (by unfold maxLen; omega)
  (Nat.le_trans (Nat.mul_le_mul hb hby) (by decide)) (Nat.zero_le _)
 obtain ⟨A', c', rfl⟩ := own_form ho
 refine ⟨A', c', w', hr, hI.turn i hL _ hg.os hg.tape hg.output hg.size (fun k hk hne => hg.block k hk (fun e => hne (by simp [Rs.foot, ← e]))) ho ?_⟩
 rcases hat with hat | hat
 · exact .inl (by simp [Rs.foot, hat])
 · exact .inr ⟨_, by simp [Rs.foot, hat], Nat.le_refl _⟩
theorem s_appG {t te sz c c2 : Nat} {α : Type} {f : α → D} {xs ys : List α} {A A2 : Option Addr} {cs : List Value} {x y : Operand} (hA : AppI P t te sz) (i : Nat) (hI : Inv w0 G0 D0 G L w) (hE : Env a n e) (hg : gd ops e g = some true)
 (hL : L[i]? = some (.row (.slice A xs.length c) te sz xs.length cs)) (hs : Sl G A2 c2 sz (ys.map f)) (hx : ev e x = some (.slice A xs.length c)) (hy : ev e y = some (.slice A2 ys.length c2)) (hb : xs.length + ys.length ≤ 4294967296) (hd : Nat.blt d n = true)
 (k : ∀ a' w' A' c' cs2, Env a' n ((d, .slice A' (xs ++ ys).length c') :: e) → RL G sz (ys.map f) cs2 → Inv w0 G0 D0 G (L.set i (.row (.slice A' (xs ++ ys).length c') te sz (xs ++ ys).length (cs ++ cs2))) w' → wpList P ops Q rest a' w') :
 wpList P ops Q (⟨some d, .call ⟨.builtin .append, ⟨[x, y]⟩, ⟨[t, t]⟩⟩, ty, ps, af, g⟩ :: rest) a w := by
 obtain ⟨cs2, h1, h2⟩ := hs.row
 rcases h2 with h2 | ⟨b, o, rfl, h2⟩
 · -- nothing is added
   have hys : ys = [] := by simpa using h2
   subst hys
   simp only [List.map_nil, RL] at h1
   subst h1
   have hown : w.ownsRow 0 te sz (.slice A xs.length c) xs.length cs := hI.ok _ (List.mem_of_getElem? hL)
   obtain ⟨hu, ii, z, hi, hz, hs', hzs, h0, hby⟩ := hA
   refine wpList_do (gd_wanted hE hg) (wp_val (w' := w) (v := .slice A xs.length c) ?_ ?_)
   · have hnm : xs.length ≤ c := by
      rcases hown.2 with ⟨hv, h0⟩ | ⟨g, cap, cur, hv, _, hg, hnc, _⟩
      · rw [h0]; omega
      · injection hv with e1 e2 e3; omega
     cases A with
     | none => cases A2 <;> simp [execOp, resolve, invoke, builtin, hE.eval hx, hE.eval hy, Builtin.append_, run_underlying hu, sizeOf, typeInfo, hi, Builtin.lenOf, Builtin.firstCells, loadCells, loadCellsFrom, hnm]
     | some ad => cases A2 <;> simp [execOp, resolve, invoke, builtin, hE.eval hx, hE.eval hy, Builtin.append_, run_underlying hu, sizeOf, typeInfo, hi, Builtin.lenOf, Builtin.firstCells, loadCells, loadCellsFrom, hnm, storeCells]
   · have hset : L.set i (.row (.slice A xs.length c) te sz xs.length cs) = L := by
      obtain ⟨hi', he⟩ := List.getElem?_eq_some_iff.1 hL
      rw [← he]; simp
     have := k (a.put (some d) (.slice A xs.length c)) w A c [] (by simpa using hE.put hd (.slice A xs.length c)) RL.nil (by simpa [hset] using hI)
     simpa using this
 · obtain ⟨A', c', w', hr, hI'⟩ := append_run (P := P) (ty := ty) (c := c2) (ba := ⟨b, o, none⟩) (m := ys.length) (news := cs2) hA i hI hL (by simpa using h1.length) (fun j u hu => by
    rw [Addr.add_lit]
    have hj : j < cs2.length := by
     rcases Nat.lt_or_ge j cs2.length with h | h
     · exact h
     · rw [List.getElem?_eq_none h] at hu; cases hu
    exact hI.inG.cell ((h2 j hj).trans hu)) h1.one hb (y := y) (x := x)
   rw [← List.length_append] at hr hI'
   refine wpList_do (gd_wanted hE hg) (wp_val (w' := w') (v := .slice A' (xs ++ ys).length c') ?_ (k _ _ A' c' cs2 (hE.put hd _) h1 hI'))
   simp [execOp, resolve, invoke, builtin, hE.eval hx, hE.eval hy, hr]
theorem s_appR {t te sz c c2 : Nat} {α : Type} {f : α → D} {xs ys : List α} {A2 : Addr} {A : Option Addr} {cs cs2 : List Value} {x y : Operand} (hA : AppI P t te sz) (i j : Nat) (hI : Inv w0 G0 D0 G L w) (hE : Env a n e) (hg : gd ops e g = some true)
 (hL : L[i]? = some (.row (.slice A xs.length c) te sz xs.length cs)) (hL2 : L[j]? = some (.row (.slice (some A2) ys.length c2) te sz ys.length cs2)) (hR : RL G sz (ys.map f) cs2) (hx : ev e x = some (.slice A xs.length c)) (hy : ev e y = some (.slice (some A2) ys.length c2)) (hb : xs.length + ys.length ≤ 4294967296) (hd : Nat.blt d n = true)
 (k : ∀ a' w' A' c', Env a' n ((d, .slice A' (xs ++ ys).length c') :: e) → Inv w0 G0 D0 G (L.set i (.row (.slice A' (xs ++ ys).length c') te sz (xs ++ ys).length (cs ++ cs2))) w' → wpList P ops Q rest a' w') :
 wpList P ops Q (⟨some d, .call ⟨.builtin .append, ⟨[x, y]⟩, ⟨[t, t]⟩⟩, ty, ps, af, g⟩ :: rest) a w := by
 have hown : w.ownsRow 0 te sz (.slice (some A2) ys.length c2) ys.length cs2 := hI.ok _ (List.mem_of_getElem? hL2)
 have hcell : ∀ j u, cs2[j]? = some u → w.cell? (A2.add j) = some u := by
  rcases hown.2 with ⟨hv, _⟩ | ⟨g, cap, cur, hv, _⟩
  · cases hv
  · injection hv with e1 e2 e3
    injection e1 with e1
    subst e1
    exact hown.cells rfl
 obtain ⟨A', c', w', hr, hI'⟩ := append_run (P := P) (ty := ty) (c := c2) (ba := A2) (m := ys.length) (news := cs2) hA i hI hL (by simpa using hR.length) hcell hR.one hb (y := y) (x := x)
 rw [← List.length_append] at hr hI'
 refine wpList_do (gd_wanted hE hg) (wp_val (w' := w') (v := .slice A' (xs ++ ys).length c') ?_ (k _ _ A' c' (hE.put hd _) hI'))
 simp [execOp, resolve, invoke, builtin, hE.eval hx, hE.eval hy, hr]
def parts (e : EL) (sz : Nat) : Nat → List (Nat × Operand) → Option (List Value)
 | _, [] => some []
 | i, (j, x) :: l => match Nat.beq i j, ev e x, parts e sz (i + 1) l with
  | true, some v, some r => match vcells v with
   | some c => bif Nat.beq c.length sz then some (c ++ r) else none
   | none => none
  | _, _, _ => none
theorem foldl_lay : ∀ (c : List Value) (o : Nat) (l : List Value), o + c.length ≤ l.length → (c.zipIdx.foldl (fun (cs : Array Value) (p : Value × Nat) => cs.setIfInBounds (o + p.2) p.1) l.toArray) = (l.take o ++ c ++ l.drop (o + c.length)).toArray := by
 intro c
 suffices h : ∀ (c : List Value) (o s : Nat) (l : List Value), o + s + c.length ≤ l.length → ((c.zipIdx s).foldl (fun (cs : Array Value) (p : Value × Nat) => cs.setIfInBounds (o + p.2) p.1) l.toArray) = (l.take (o + s) ++ c ++ l.drop (o + s + c.length)).toArray by
  intro o l hl; simpa using h c o 0 l (by simpa using hl)
 intro c
 induction c with
 | nil => intro o s l hl; simp
 | cons v c ih =>
  intro o s l hl
  simp only [List.zipIdx_cons, List.foldl_cons, List.setIfInBounds_toArray]
  simp only [List.length_cons] at hl
  rw [ih o (s + 1) (l.set (o + s) v) (by simp; omega)]
  congr 1
  have h1 : (l.set (o + s) v).take (o + (s + 1)) = l.take (o + s) ++ [v] := by
   rw [show o + (s + 1) = (o + s) + 1 from by omega, List.take_succ_eq_append_getElem (by simp; omega)]
   rw [List.take_set_of_le (Nat.le_refl _)]
   simp
  have h2 : (l.set (o + s) v).drop (o + (s + 1) + c.length) = l.drop (o + s + (v :: c).length) := by
   rw [List.drop_set_of_lt (by omega)]; simp; congr 1; omega
  rw [h1, h2]; simp
theorem fill_parts {e : EL} {a : Act} {n : Nat} (hE : Env a n e) (sz : Nat) : ∀ (l : List (Nat × Operand)) (i : Nat) (r pre : List Value) (z : List Value), parts e sz i l = some r → pre.length = i * sz → z.length = r.length →
 Instr.fill (fun i => some (i * sz, sz)) (pre ++ z).toArray (l.map fun p => (p.1, a.eval p.2)) = some (pre ++ r).toArray
 | [], i, r, pre, z, h, hp, hz => by
  simp only [parts, Option.some.injEq] at h
  subst h
  have : z = [] := List.eq_nil_of_length_eq_zero (by simpa using hz)
  subst this; rfl
 | (j, x) :: l, i, r, pre, z, h, hp, hz => by
  simp only [parts] at h
  split at h
  · rename_i v r' h1 h2 h3
    split at h
    · rename_i c hc
      cases hb : Nat.beq c.length sz with
      | false => rw [hb] at h; cases h
      | true =>
       rw [hb] at h
       cases h
       have hcl := Nat.eq_of_beq_eq_true hb
       have hij := Nat.eq_of_beq_eq_true h1
       subst hij
       have hvc : v.cells = c.toArray := by cases v <;> simp [vcells] at hc <;> subst hc <;> rfl
       have hz' : z.length = c.length + r'.length := by simpa using hz
       simp only [List.map_cons, Instr.fill, hE.eval h2, hvc]
       rw [if_neg (by simp [hcl]; omega)]
       have hl := foldl_lay c (i * sz) (pre ++ z) (by simp; omega)
       have hl' : Array.foldl (fun (cs : Array Value) (x : Value × Nat) => cs.setIfInBounds (i * sz + x.2) x.1) (pre ++ z).toArray c.toArray.zipIdx = ((pre ++ z).take (i * sz) ++ c ++ (pre ++ z).drop (i * sz + c.length)).toArray := by
        rw [← hl]; simp
       rw [hl']
       have e1 : (pre ++ z).take (i * sz) ++ c ++ (pre ++ z).drop (i * sz + c.length) = (pre ++ c) ++ z.drop c.length := by
        rw [List.take_append_of_le_length (by omega), List.take_of_length_le (by omega), List.drop_append, List.drop_of_length_le (by omega)]
        simp; congr 1; omega
       rw [e1, fill_parts hE sz l (i + 1) r' (pre ++ c) (z.drop c.length) h3 (by simp [hp, hcl, Nat.succ_mul]) (by simp; omega)]
       simp
    · cases h
  · cases h
theorem parts_len {e : EL} {sz : Nat} : ∀ (l : List (Nat × Operand)) (i : Nat) (r : List Value), parts e sz i l = some r → r.length = l.length * sz
 | [], i, r, h => by simp only [parts, Option.some.injEq] at h; subst h; simp
 | (j, x) :: l, i, r, h => by
  simp only [parts] at h
  split at h
  · rename_i v r' h1 h2 h3
    split at h
    · rename_i c hc
      cases hb : Nat.beq c.length sz with
      | false => rw [hb] at h; cases h
      | true =>
       rw [hb] at h
       cases h
       have hcl := Nat.eq_of_beq_eq_true hb
       have := parts_len l (i + 1) r' h3
       simp [this, hcl, Nat.succ_mul]; omega
    · cases h
  · cases h
theorem s_bsl {t te sz m : Nat} {l : List (Nat × Operand)} {cs : List Value} (hA : AppI P t te sz) (hI : Inv w0 G0 D0 G L w) (hE : Env a n e) (hg : gd ops e g = some true) (hp : parts e sz 0 l = some cs) (hm : Nat.beq l.length m = true) (hs : Nat.ble (m * sz) 16777216 = true) (hd : Nat.blt d n = true)
 (k : ∀ a' w' b, Env a' n ((d, .slice (some ⟨b, 0, none⟩) m m) :: e) → Inv w0 G0 D0 G (.row (.slice (some ⟨b, 0, none⟩) m m) te sz m cs :: L) w' → wpList P ops Q rest a' w') :
 wpList P ops Q (⟨some d, .buildSlice t m ⟨l⟩, ty, ps, af, g⟩ :: rest) a w := by
 obtain ⟨hu, ii, z, hi, hz, hsz, hzs, h0, hby⟩ := hA
 have hml := Nat.eq_of_beq_eq_true hm
 have hcl := parts_len l 0 cs hp
 rw [hml] at hcl
 have hle : m * sz ≤ 16777216 := Nat.le_of_ble_eq_true hs
 have hmm : m ≤ m * sz := Nat.le_mul_of_pos_right m h0
 have hown : (w.alloc (.cells cs.toArray te)).ownsRow 0 te sz (.slice (some ⟨w.heap.size, 0, none⟩) m m) m cs :=
  ⟨hcl, .inr ⟨w.heap.size, m, cs.toArray, rfl, Nat.zero_le _, by show (w.heap.push _)[w.heap.size]? = _; simp, Nat.le_refl _, by unfold maxLen; omega, by simpa using hcl, by simp [← hcl]⟩⟩
 refine wpList_do (gd_wanted hE hg) (wp_val (w' := w.alloc (.cells cs.toArray te)) (v := .slice (some ⟨w.heap.size, 0, none⟩) m m) ?_ (k _ _ _ (hE.put hd _) (hI.new _ _ hown rfl)))
 have hfill : ∀ Z : List Value, Z.length = cs.length → Instr.fill (fun i => some (i * sz, sz)) Z.toArray (l.map fun p => (p.1, a.eval p.2)) = some cs.toArray := fun Z hZ => by
  simpa using fill_parts hE sz l 0 cs [] Z hp (by simp) hZ
 by_cases hm0 : m = 0
 · subst hm0
   have hl0 : l = [] := List.eq_nil_of_length_eq_zero hml
   subst hl0
   simp only [parts, Option.some.injEq] at hp
   subst hp
   simp [execOp, Instr.buildSlice, run_underlying hu, sizeOf, typeInfo, hi, Instr.fill, newRow, newObj, Sem.run]
   congr 2; exact Array.eq_empty_of_size_eq_zero (by simp)
 · have hne : ¬ m * sz = 0 := by
    intro h; rcases Nat.mul_eq_zero.1 h with h | h <;> omega
   have hng : ¬ 16777216 < m * sz := by omega
   have hf := hfill ((Array.range (m * sz)).map (z.cells[· % z.cells.size]!)).toList (by simp [hcl])
   simp only [Array.toArray_toList] at hf
   simp [execOp, Instr.buildSlice, run_underlying hu, sizeOf, typeInfo, hi, hsz, hne, hng, zeroValue, hz, newRow, newObj, Sem.run]
   rw [hf]
   simp [Sem.run]
def bld (e : EL) (fs : List (Nat × Nat × Bool)) : List Value → List (Nat × Operand) → Option (List Value)
 | z, [] => some z
 | z, (i, x) :: l => match fs[i]?, ev e x with
  | some f, some v => match vcells v with
   | some c => bif Nat.beq c.length f.2.1 then (match lay z f.1 c with
    | some z' => bld e fs z' l
    | none => none) else none
   | none => none
  | _, _ => none
theorem fill_bld {e : EL} {a : Act} {n : Nat} (hE : Env a n e) {fs : List (Nat × Nat × Bool)} {pl : Array (Nat × Nat)} (hpl : pl.toList = fs.map fun f => (f.1, f.2.1)) : ∀ (l : List (Nat × Operand)) (z r : List Value), bld e fs z l = some r →
 Instr.fill (pl[·]?) z.toArray (l.map fun p => (p.1, a.eval p.2)) = some r.toArray
 | [], z, r, h => by simp only [bld, Option.some.injEq] at h; subst h; rfl
 | (i, x) :: l, z, r, h => by
  simp only [bld] at h
  split at h
  · rename_i f v hf hv
    split at h
    · rename_i c hc
      cases hb : Nat.beq c.length f.2.1 with
      | false => rw [hb] at h; cases h
      | true =>
       rw [hb] at h
       simp only [cond_true] at h
       split at h
       · rename_i z' hz'
         have hcl := Nat.eq_of_beq_eq_true hb
         obtain ⟨g1, g2⟩ := lay_eq hz'
         have hvc : v.cells = c.toArray := by cases v <;> simp [vcells] at hc <;> subst hc <;> rfl
         have hpi : pl[i]? = some (f.1, f.2.1) := by
          have := congrArg (fun l => l[i]?) hpl
          simpa [hf] using this
         simp only [List.map_cons, Instr.fill, hpi, hE.eval hv, hvc]
         rw [if_neg (by simp [hcl]; omega)]
         have hl := foldl_lay c f.1 z (by omega)
         have hl' : Array.foldl (fun (cs : Array Value) (x : Value × Nat) => cs.setIfInBounds (f.1 + x.2) x.1) z.toArray c.toArray.zipIdx = z'.toArray := by
          rw [g1, ← hl]; simp
         rw [hl']
         exact fill_bld hE hpl l z' r h
       · cases h
    · cases h
  · cases h
theorem f_build {C : World → Prop} {t : Nat} {l : List (Nat × Operand)} {fs : List (Nat × Nat × Bool)} {z : Value} {zs cs : List Value} (hT : T.Ok P) (hf : lst T.st t = some fs) (hz : (P.info? t).bind (·.zero) = some z) (hzc : vcells z = some zs)
 (hb : bld e fs zs l = some cs) : RT P n e C (.build t ⟨l⟩) (.agg ⟨cs⟩) := by
 intro a w dst ty ps af g hE hC
 obtain ⟨FS, hu, hfs, _⟩ := hT.st _ (lst_mem hf)
 dsimp only at hu hfs
 have hv : z.cells = zs.toArray := by cases z <;> simp [vcells] at hzc <;> subst hzc <;> rfl
 have hmap : ∀ (l : List Field) (m : List (Nat × Nat × Bool)), l.map (fun f => (f.offset, tySize P f.type, tyAgg P f.type)) = m.map (fun y => (y.1, some y.2.1, some y.2.2)) →
  (l.mapM (fun f => do pure (f.offset, ← sizeOf f.type) : Field → Sem (Nat × Nat))).run P w = .ok (m.map fun f => (f.1, f.2.1)) w := by
  intro l
  induction l with
  | nil => intro m hm; cases m <;> simp at hm; simp [List.mapM_nil]
  | cons f l ih =>
   intro m hm
   cases m with
   | nil => simp at hm
   | cons y m =>
    simp only [List.map_cons, List.cons.injEq, Prod.mk.injEq] at hm
    have := ih m hm.2
    rw [List.mapM_cons]
    simp only [Sem.run_bind, run_ty hm.1.2.1, Result.andThen_ok, Sem.run_pure, this]
    rw [hm.1.1]; rfl
 cases hi : P.info? t with
 | none => simp [hi] at hz
 | some ii =>
  simp [hi] at hz
  have h1 := hmap FS.toList fs hfs
  have h2 : (FS.mapM (fun f => do pure (f.offset, ← sizeOf f.type) : Field → Sem (Nat × Nat))).run P w = .ok (fs.map fun f => (f.1, f.2.1)).toArray w := by
   have : FS = FS.toList.toArray := by simp
   rw [this, List.mapM_toArray]
   change ((FS.toList.mapM (fun f => do pure (f.offset, ← sizeOf f.type) : Field → Sem (Nat × Nat)) >>= fun a => pure a.toArray) : Sem _).run P w = _
   rw [Sem.run_bind, h1]; rfl
  have h3 := fill_bld hE (pl := (fs.map fun f => (f.1, f.2.1)).toArray) (by simp) l zs cs hb
  have hz' : (zeroValue t).run P w = .ok z w := by simp [zeroValue, typeInfo, hi, hz]
  simp only [execOp, Instr.build, Sem.run_bind, hz', Result.andThen_ok, run_underlying hu, h2, Sem.run_pure, hv]
  simp only [List.map_toArray]
  rw [h3]
  rfl
end
end Go.Proofs.YtknhbphhdfknaaaGreatDoor
