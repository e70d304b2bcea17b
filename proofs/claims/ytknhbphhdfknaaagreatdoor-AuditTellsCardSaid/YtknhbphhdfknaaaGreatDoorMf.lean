import Derived.Test.YtknhbphhdfknaaaGreatDoorMe
set_option linter.unusedVariables false
set_option linter.unusedSimpArgs false
namespace Go.Proofs.YtknhbphhdfknaaaGreatDoor
open Go.RowKit
section
variable {w0 : World} {G0 G : GH} {D0 : List Nat} {T : Tab} {P : Program} {OT : OTab} {KT : KTab}
variable {k : Nat} {rec : G4} {f n : Nat} {E : Trie AV} {H : Trie AO} {sz : Nat} {x : Exit} {F : Fin} {L : List Rs} {w : World}
theorem jump_run {l : Nat} {c r : Code} {r4 : R4} (IH : Sd P G k rec) (hf : findLabel c l = some r) (h : gJump rec l c r f n r4 = some (x, F)) : ∃ x0 F0, r4 = some (x0, F0) ∧
 ∀ (Q : Exit → Act → World → Prop), (∀ a' w' L' e', Post w0 G0 D0 G n L F a' w' L' e' → Q x a' w') → ∀ a' w' L' e', Post w0 G0 D0 G n L F0 a' w' L' e' → Exit.jump l (OkS P c r Q) Q x0 a' w' := by
 unfold gJump at h
 split at h
 · rename_i l' F0
   obtain ⟨hb, h⟩ := cnd' h
   obtain rfl := Nat.eq_of_beq_eq_true hb
   obtain ⟨F1, h1, rfl⟩ := joinF_eq h
   refine ⟨_, _, rfl, fun Q hQ a' w' L' e' hP => ⟨rfl, ?_⟩⟩
   exact IH w0 G0 D0 _ _ _ _ _ _ _ _ h1 L' w' hP.inv hP.hs hf e' a' Q hP.env hP.es fun a2 w2 L2 e2 hP2 => hQ _ _ _ _ (hP.trans hP2)
 · rename_i hne
   refine ⟨_, _, h, fun Q hQ a' w' L' e' hP => ?_⟩
   cases x with
   | goto l' => exact (hne l' F h).elim
   | _ => exact hQ _ _ _ _ hP
theorem allLt_of : ∀ {is : List Nat} {s : Nat}, allLt s is = true → ∀ i, hasN is i = true → i < s
 | [], s, _, i, h => by cases h
 | x :: l, s, h, i, hi => by
  simp only [allLt] at h
  cases hb : Nat.blt x s with
  | false => rw [hb] at h; cases h
  | true =>
   rw [hb] at h
   simp only [hasN] at hi
   cases hx : Nat.beq x i with
   | true => obtain rfl := Nat.eq_of_beq_eq_true hx; simpa using hb
   | false => rw [hx] at hi; exact allLt_of h i hi
theorem code_run (hT : T.Ok P) (hm : P.follows .mixedOrders = true) (IH : Sd P G k rec) {c : Code} (h : gCode T P OT rec f n E H sz c = some (x, F)) (hI : Inv w0 G0 D0 G L w) (hH : HS H sz L) : Good P w0 G0 D0 G (k + 1) (.code c) n E x F L w := by
 intro e a Q hE hR hQ
 unfold gCode at h
 split at h
 · obtain ⟨rfl, rfl⟩ := fin0_eq h; exact wp_skip (hQ _ _ _ _ (post0 hI hH hE hR))
 · obtain ⟨rfl, rfl⟩ := fin0_eq h; exact wp_label (hQ _ _ _ _ (post0 hI hH hE hR))
 · obtain ⟨rfl, rfl⟩ := fin0_eq h; exact wp_exit (hQ _ _ _ _ (post0 hI hH hE hR))
 · obtain ⟨rfl, rfl⟩ := fin0_eq h; exact wp_goto (hQ _ _ _ _ (post0 hI hH hE hR))
 · obtain ⟨rfl, rfl⟩ := fin0_eq h; exact wp_ret (hQ _ _ _ _ (post0 hI hH hE hR))
 · rename_i c1 c2
   unfold gSeq at h
   split at h
   · rename_i F0 h0
     obtain ⟨F1, h1, rfl⟩ := joinF_eq h
     refine wp_seq (IH w0 G0 D0 _ _ _ _ _ _ _ _ h0 L w hI hH e a _ hE hR fun a' w' L' e' hP => ?_)
     exact IH w0 G0 D0 _ _ _ _ _ _ _ _ h1 L' w' hP.inv hP.hs e' a' Q hP.env hP.es fun a2 w2 L2 e2 hP2 => hQ _ _ _ _ (hP.trans hP2)
   · rename_i hne
     refine wp_seq (IH w0 G0 D0 _ _ _ _ _ _ _ _ h L w hI hH e a _ hE hR fun a' w' L' e' hP => ?_)
     cases x with
     | normal => exact (hne _ h).elim
     | _ => exact hQ _ _ _ _ hP
 · unfold gCond at h
   split at h
   · rename_i hc
     obtain ⟨r, h1, h2⟩ := ev_of hR hc; obtain rfl := h2.ofdat
     exact c_true hE h1 (IH w0 G0 D0 _ _ _ _ _ _ _ _ h L w hI hH e a Q hE hR hQ)
   · rename_i hc
     obtain ⟨r, h1, h2⟩ := ev_of hR hc; obtain rfl := h2.ofdat
     exact c_false hE h1 (IH w0 G0 D0 _ _ _ _ _ _ _ _ h L w hI hH e a Q hE hR hQ)
   · cases h
 · rename_i i c1
   unfold gBlock at h
   split at h
   · rename_i j F0 h0
     cases h
     refine wp_block (IH w0 G0 D0 _ _ _ _ _ _ _ _ h0 L w hI hH e a _ hE hR fun a' w' L' e' hP => ?_)
     have := hQ _ _ _ _ hP
     simp only [Exit.inBlock]
     cases hb : Nat.beq j i with
     | true => rw [hb] at this; rw [if_pos (Nat.eq_of_beq_eq_true hb)]; exact this
     | false => rw [hb] at this; rw [if_neg (fun e => by subst e; simp at hb)]; exact this
   · rename_i hne
     refine wp_block (IH w0 G0 D0 _ _ _ _ _ _ _ _ h L w hI hH e a _ hE hR fun a' w' L' e' hP => ?_)
     cases x with
     | exit j => exact (hne _ _ h).elim
     | _ => exact hQ _ _ _ _ hP
 · exact wp_loop_rounds k (IH w0 G0 D0 _ _ _ _ _ _ _ _ h L w hI hH e a Q hE hR hQ)
 · rename_i id ops d
   unfold gReg at h
   split at h
   · obtain ⟨rfl, x0, h⟩ := gNorm_eq h
     exact c_reg (IH w0 G0 D0 _ _ _ _ _ _ _ _ h L w hI hH e a Q hE hR hQ)
   · unfold gReg1 at h
     split at h
     · rename_i ds o _
       obtain ⟨hB, h⟩ := cnd' h
       replace hB := mixF_all hB
       unfold gReg2 at h
       obtain ⟨hl, h⟩ := cnd' h
       obtain ⟨rfl, x0, h⟩ := gNorm_eq h
       refine c_mix ds o (mask (preA T P ops H o E) L) hm hB hI fun w' hI' => ?_
       exact IH w0 G0 D0 _ _ _ _ _ _ _ _ h L w' hI' hH e a (NoPanic Q) L hE hR (fun i hi => by rw [hH.len]; exact allLt_of hl i hi) (fun _ _ _ => rfl) fun a' w' L' e' hP => hQ _ _ _ _ hP
     · cases h
 · rename_i c1
   unfold gSc at h
   split at h
   · unfold gSc1 at h
     split at h
     · rename_i l _ r hf
       obtain ⟨x0, F0, h0, h1⟩ := jump_run (w0 := w0) (G0 := G0) (D0 := D0) (G := G) (L := L) IH hf h
       exact c_scope _ hf (IH w0 G0 D0 _ _ _ _ _ _ _ _ h0 L w hI hH e a _ hE hR (h1 Q hQ))
     · cases h
   · cases h
 · cases h
theorem rounds_run (IH : Sd P G k rec) {c : Code} (h : gRounds rec c f n (rec (.code c) f n E H sz) = some (x, F)) (hI : Inv w0 G0 D0 G L w) (hH : HS H sz L) : Good P w0 G0 D0 G (k + 1) (.rounds c) n E x F L w := by
 intro e a Q hE hR hQ
 show c.wp P (Exit.then (Code.rounds P c Q k) Q) a w
 unfold gRounds at h
 split at h
 · rename_i F0 h0
   obtain ⟨F1, h1, rfl⟩ := joinF_eq h
   refine IH w0 G0 D0 _ _ _ _ _ _ _ _ h0 L w hI hH e a _ hE hR fun a' w' L' e' hP => ?_
   exact IH w0 G0 D0 _ _ _ _ _ _ _ _ h1 L' w' hP.inv hP.hs e' a' Q hP.env hP.es fun a2 w2 L2 e2 hP2 => hQ _ _ _ _ (hP.trans hP2)
 · rename_i hne
   refine IH w0 G0 D0 _ _ _ _ _ _ _ _ h L w hI hH e a _ hE hR fun a' w' L' e' hP => ?_
   cases x with
   | normal => exact (hne _ h).elim
   | _ => exact hQ _ _ _ _ hP
theorem again_run (IH : Sd P G k rec) {l : Nat} {c r : Code} (h : gJump rec l c r f n (rec (.code r) f n E H sz) = some (x, F)) (hI : Inv w0 G0 D0 G L w) (hH : HS H sz L) : Good P w0 G0 D0 G (k + 1) (.again l c r) n E x F L w := by
 intro hf e a Q hE hR hQ
 obtain ⟨x0, F0, h0, h1⟩ := jump_run (w0 := w0) (G0 := G0) (D0 := D0) (G := G) (L := L) IH hf h
 exact okS_step hf (IH w0 G0 D0 _ _ _ _ _ _ _ _ h0 L w hI hH e a _ hE hR (h1 Q hQ))
theorem callee_of {op : Op} {g : Nat} {vs : List AV} {e : EL} {a : Act} {ps : List Pl} (hE : Env a n e) (hR : ES E e ps) (h : calleeA P E op = some (g, vs)) : ∃ rs, RVs ps vs rs ∧ (Callable P g → ∀ (dst : Option Tmp) (ty : Nat) (pos : String) (af : Array Edge) (gu : Option (Nat × Bool)) (w : World), (execOp a.eval ⟨dst, op, ty, pos, af, gu⟩).run P w = .ok (.enter g ⟨rs⟩) w) := by
 unfold calleeA at h
 split at h
 · split at h
   · rename_i y args ats _ _ g' cap vs' h1 h2
     cases h
     obtain ⟨r, k1, k2⟩ := ev_of hR h1
     simp only [RV] at k2
     obtain ⟨rs, rfl, k3⟩ := k2
     obtain ⟨vals, k4, k5⟩ := evs_of hR h2
     exact ⟨_, k5.app k3, fun hcl dst ty pos af gu w => enterV_run hcl hE k1 k4 dst⟩
   · cases h
 · split at h
   · rename_i y name args ats _ _ t v vs' h1 h2
     unfold calI at h
     split at h
     · rename_i g' hg
       cases h
       obtain ⟨r, k1, k2⟩ := ev_of hR h1
       simp only [RV] at k2
       obtain ⟨q, rfl, k3⟩ := k2
       simp only [RVs] at k3
       obtain ⟨q', _, hq, k3, rfl⟩ := k3
       cases hq
       obtain ⟨vals, k4, k5⟩ := evs_of hR h2
       exact ⟨_, RVs.cons k3 k5, fun hcl dst ty pos af gu w => enterI_run (fun w => mth_run hg q w) hcl hE k1 k4 dst w⟩
     · cases h
   · cases h
 · cases h
theorem op_run (hT : T.Ok P) (IH : Sd P G k rec) {all : Array Oper} {o : Oper} (h : gOp T P rec o.op f n E H sz o.dst = some (x, F)) (hI : Inv w0 G0 D0 G L w) (hH : HS H sz L) : Good P w0 G0 D0 G (k + 1) (.op all o) n E x F L w := by
 intro e a Q rest hE hR hg hQ
 obtain ⟨dst, op, ty, ps, af, g⟩ := o
 dsimp only at h hg
 unfold gOp at h
 split at h
 · rename_i _ d
   obtain ⟨hd, h⟩ := cnd' h
   unfold gPe at h
   split at h
   · rename_i v hv
     obtain ⟨rfl, rfl⟩ := fin0_eq h
     exact s_get hT hI hH hE hR hg rfl hd (.inl hv) fun a' r hE' hR' => hQ _ _ _ _ ⟨Ext.refl _, hH, Fr.refl _ _, hE', hR', hI⟩
   unfold gRd at h
   split at h
   · rename_i v hv
     obtain ⟨rfl, rfl⟩ := fin0_eq h
     exact s_get hT hI hH hE hR hg rfl hd (.inr hv) fun a' r hE' hR' => hQ _ _ _ _ ⟨Ext.refl _, hH, Fr.refl _ _, hE', hR', hI⟩
   unfold gEf at h
   split at h
   · rename_i v H' sz' wr hv
     cases h
     rw [efF_eq] at hv
     refine efA_run hT hI hE hR hH hg hd hv ?_
     intro a' w' L' e' h1 h2 h3 h4 h5 h6
     obtain ⟨r, h7, rfl⟩ := h5
     exact hQ _ _ _ _ ⟨h1, h2, h3, h4, (hR.mono h1).put (f := 40) h7, h6⟩
   · unfold gOp2 at h
     split at h
     · rename_i g' vs hc
       unfold gOp3 at h
       split at h
       · rename_i x' F' h0
         cases h
         obtain ⟨rs, k3, k1⟩ := callee_of hE hR hc
         obtain ⟨hcl, k4⟩ := IH w0 G0 D0 _ _ _ _ _ _ _ _ h0 L w hI hH
         refine wpList_do (gd_wanted hE hg) ?_
         unfold Oper.wp
         rw [k1 hcl]
         refine (k4 _ k3).mono ?_
         rintro e' w' ⟨r, L', rfl, h1, h2, h3, h4, h5⟩
         exact hQ _ _ _ _ ⟨h2, h3, h4, hE.put hd _, (hR.mono h2).put (f := 40) h1, h5⟩
       · cases h
     · cases h
 · unfold gWr at h
   split at h
   · rename_i H' sz' wr hv
     cases h
     refine wrA_run hT hI hE hR hH hg (wrF_sub hv) ?_
     intro a' w' L' e' h1 h2 h3 h4 h5 h6
     dsimp only at h5
     subst h5
     exact hQ _ _ _ _ ⟨h1, h2, h3, h4, hR.mono h1, h6⟩
   · unfold gWr2 at h
     split at h
     · rename_i g' vs hc
       unfold gWr3 at h
       split at h
       · rename_i x' F' h0
         cases h
         obtain ⟨rs, k3, k1⟩ := callee_of hE hR hc
         obtain ⟨hcl, k4⟩ := IH w0 G0 D0 _ _ _ _ _ _ _ _ h0 L w hI hH
         refine wpList_do (gd_wanted hE hg) ?_
         unfold Oper.wp
         rw [k1 hcl]
         refine (k4 _ k3).mono ?_
         rintro e' w' ⟨r, L', rfl, h1, h2, h3, h4, h5⟩
         exact hQ _ _ _ _ ⟨h2, h3, h4, hE.put_none _, hR.mono h2, h5⟩
       · cases h
     · cases h
theorem ops_run (hT : T.Ok P) (IH : Sd P G k rec) {all : Array Oper} {l : List Oper} (h : gOps T P rec all f n E H sz l = some (x, F)) (hI : Inv w0 G0 D0 G L w) (hH : HS H sz L) : Good P w0 G0 D0 G (k + 1) (.ops all l) n E x F L w := by
 intro e a Q hE hR hQ
 unfold gOps gOps0 at h
 split at h
 · rename_i E' hr
   obtain ⟨rfl, rfl⟩ := fin0_eq h
   exact runB_run hT hI hH hE hR hr fun a' e' hE' hR' => hQ _ _ _ _ ⟨Ext.refl _, hH, Fr.refl _ _, hE', hR', hI⟩
 · rename_i E' o r hr
   refine runB_run hT hI hH hE hR hr fun a e hE hR => ?_
   unfold gOps1 at h
   split at h
   · rename_i hg
     unfold gOps2 at h
     split at h
     · rename_i x' F' h0
       obtain ⟨F1, h1, rfl⟩ := joinF_eq h
       refine IH w0 G0 D0 _ _ _ _ _ _ _ _ h0 L w hI hH e a Q r hE hR (gd_of hR hg) fun a' w' L' e' hP => ?_
       exact IH w0 G0 D0 _ _ _ _ _ _ _ _ h1 L' w' hP.inv hP.hs e' a' Q hP.env hP.es fun a2 w2 L2 e2 hP2 => hQ _ _ _ _ (hP.trans hP2)
     · cases h
   · rename_i hg
     unfold gOps3 at h
     split at h
     · rename_i d hd
       obtain ⟨hb, h⟩ := cnd' h
       have h1 := IH w0 G0 D0 _ _ _ _ _ _ _ _ h L w hI hH
       exact s_skp hE hR (gd_of hR hg) hd hb fun a' e' hE' hR' => h1 e' a' Q hE' hR' hQ
     · rename_i hd
       have h1 := IH w0 G0 D0 _ _ _ _ _ _ _ _ h L w hI hH
       refine wpList_no (gd_wanted hE (gd_of hR hg)) ?_
       rw [hd]
       exact h1 e _ Q (hE.put_none _) hR hQ
   · cases h
theorem ls_at {all : Array Oper} {j : Nat} {o : Oper} (h : all.toList[j]? = some o) : all[j]? = some o := by simpa using h
theorem keep_at {is wr : List Nat} {L L' L0 : List Rs} (hl : ∀ i, hasN is i = true → i < L.length) (hc : ∀ i, hasN is i = true → L[i]? = L0[i]?) (hw : wr.all (fun i => !hasN is i) = true) (hf : Fr wr L L') : ∀ i, hasN is i = true → L'[i]? = L0[i]? := fun i hi => by
 refine (hf i (hl i hi) fun hm => ?_).trans (hc i hi)
 have := List.all_eq_true.1 hw i hm
 rw [hi] at this; cases this
theorem fr_len {L L' : List Rs} (h : Ext (L.map Rs.pl) (L'.map Rs.pl)) {i : Nat} (hi : i < L.length) : i < L'.length := by
 have h1 : (L.map Rs.pl)[i]? = some L[i].pl := by simp [hi]
 have h2 : ∃ p, (L'.map Rs.pl)[i]? = some p := by
  rcases h i _ h1 with h2 | ⟨_, h2⟩ <;> exact ⟨_, h2⟩
 obtain ⟨p, h2⟩ := h2
 simpa using (List.getElem?_eq_some_iff.1 h2).1
theorem d_no {S : World → Prop} {all : Array Oper} {j d : Nat} {o : Oper} {e : EL} {a : Act} {Q : Exit → Act → World → Prop} {ord : Ord} {ps : List Pl} (ho : all[j]? = some o) (hE : Env a n e) (hR : ES E e ps) (hg : gd all e o.guard = some false) (hd : o.dst = some d) (hb : Nat.blt d n = true)
 (h : ∀ a' e', Env a' n e' → ES (Trie.set 40 E d (.dat undef)) e' ps → wpMix P all Q S ord a' w) : wpMix P all Q S (.step j 0 ord) a w := by
 refine ⟨o, undef, ho, .inr ⟨gd_wanted hE hg, rfl⟩, ?_⟩
 rw [hd]
 exact h _ _ (hE.put hb undef) (hR.put RV.dat)
theorem d_no1 {S : World → Prop} {all : Array Oper} {j d : Nat} {o : Oper} {e : EL} {a : Act} {Q : Exit → Act → World → Prop} {ord : Ord} {ps : List Pl} (hS : S w) (ho : all[j]? = some o) (hE : Env a n e) (hR : ES E e ps) (hg : gd all e o.guard = some false) (hd : o.dst = some d) (hb : Nat.blt d n = true)
 (h : ∀ a' e', Env a' n e' → ES (Trie.set 40 E d (.dat undef)) e' ps → wpMix P all Q S ord a' w) : wpMix P all Q S (.step j 1 ord) a w := by
 refine ⟨hS, o, undef, ho, .inr ⟨gd_wanted hE hg, rfl⟩, ?_⟩
 rw [hd]
 exact h _ _ (hE.put hb undef) (hR.put RV.dat)
theorem mix0_run (hT : T.Ok P) (IH : Sd P G k rec) {all : Array Oper} {is : List Nat} {cl : Bool} {j : Nat} {o : Ord} (h : gM0 T P rec all is cl o f n E H sz all.toList[j]? = some (x, F)) (hI : Inv w0 G0 D0 G L w) (hH : HS H sz L) : Good P w0 G0 D0 G (k + 1) (.mix all is cl (.step j 0 o)) n E x F L w := by
 intro e a Q L0 hE hR hl hc hQ
 unfold gM0 at h
 split at h
 · rename_i op hop
   have hop := ls_at hop
   unfold gM0d at h
   split at h
   · rename_i d hd
     obtain ⟨dst, op, ty, ps, af, g⟩ := op
     obtain rfl : dst = some d := hd
     dsimp only at h
     obtain ⟨hb, h⟩ := cnd' h
     unfold gM0g at h
     split at h
     · rename_i hg
       unfold gM0v at h
       split at h
       · rename_i v hv
         obtain ⟨r, h1, h2⟩ := pevA_run (C := fun _ => True) (n := n) hT hH hR (pevF_sub hv)
         exact d_rt hE hop (gd_of hR hg) h2 hb fun a' hE' => IH w0 G0 D0 _ _ _ _ _ _ _ _ h L w hI hH _ a' Q L0 hE' (hR.put h1) hl hc hQ
       · cases h
     · rename_i hg
       exact d_no hop hE hR (gd_of hR hg) rfl hb fun a' e' hE' hR' => IH w0 G0 D0 _ _ _ _ _ _ _ _ h L w hI hH e' a' Q L0 hE' hR' hl hc hQ
     · cases h
   · cases h
 · cases h
theorem mix1_run (hT : T.Ok P) (IH : Sd P G k rec) {all : Array Oper} {is : List Nat} {cl : Bool} {j : Nat} {o : Ord} (h : gM1 T P rec all is cl o f n E H sz all.toList[j]? = some (x, F)) (hI : Inv w0 G0 D0 G L w) (hH : HS H sz L) : Good P w0 G0 D0 G (k + 1) (.mix all is cl (.step j 1 o)) n E x F L w := by
 intro e a Q L0 hE hR hl hc hQ
 unfold gM1 at h
 split at h
 · rename_i op hop
   have hop := ls_at hop
   unfold gM1d at h
   split at h
   · rename_i d hd
     obtain ⟨dst, op, ty, ps, af, g⟩ := op
     obtain rfl : dst = some d := hd
     dsimp only at h
     obtain ⟨hb, h⟩ := cnd' h
     obtain ⟨hb, hcl⟩ := Bool.and_eq_true_iff.1 hb
     have hS := sw_mask hI (hc hcl)
     unfold gM1g at h
     split at h
     · rename_i hg
       unfold gM1i at h
       split at h
       · rename_i i hi
         obtain ⟨hn, h⟩ := cnd' h
         unfold gM0v at h
         split at h
         · rename_i v hv
           rw [rdF_eq] at hv
           obtain ⟨r, h1, h2⟩ := rdA_run (L0 := mask is L0) hT hH hE hR hv (fun i' hi' => by
            rw [hi] at hi'; cases hi'
            rw [mask_at hn (hc hcl i hn)])
           exact d_ld hS hE hop (gd_of hR hg) (RT.sw fun w1 => h2 w1 G _) hb fun a' hE' => IH w0 G0 D0 _ _ _ _ _ _ _ _ h L w hI hH _ a' Q L0 hE' (hR.put h1) hl hc hQ
         · cases h
       · unfold gM0v at h
         split at h
         · rename_i v hv
           obtain ⟨r, h1, h2⟩ := pevA_run (C := Sw G (mask is L0)) (n := n) hT hH hR (pevF_sub hv)
           exact d_ld hS hE hop (gd_of hR hg) h2 hb fun a' hE' => IH w0 G0 D0 _ _ _ _ _ _ _ _ h L w hI hH _ a' Q L0 hE' (hR.put h1) hl hc hQ
         · cases h
     · rename_i hg
       exact d_no1 hS hop hE hR (gd_of hR hg) rfl hb fun a' e' hE' hR' => IH w0 G0 D0 _ _ _ _ _ _ _ _ h L w hI hH e' a' Q L0 hE' hR' hl hc hQ
     · cases h
   · cases h
 · cases h
theorem mix2_run (IH : Sd P G k rec) {all : Array Oper} {is : List Nat} {cl : Bool} {j c : Nat} {o : Ord} (h : gM2 rec all is cl c o f n E H sz all.toList[j]? = some (x, F)) (hI : Inv w0 G0 D0 G L w) (hH : HS H sz L) : Good P w0 G0 D0 G (k + 1) (.mix all is cl (.step j (c + 2) o)) n E x F L w := by
 intro e a Q L0 hE hR hl hc hQ
 unfold gM2 at h
 split at h
 · rename_i op hop
   have hop := ls_at hop
   unfold gM2g at h
   -- what is shown of either kind
   suffices hs : ∀ R : Act → World → Prop, (∀ a' w', (c = 0 → Sw G (mask is L0) w') → wpMix P all Q (Sw G (mask is L0)) o a' w' → R a' w') → wpList P all (QN R) [op] a w by
    cases c with
    | zero => exact ⟨op, hop, hs _ fun a' w' h1 h2 => ⟨h1 rfl, h2⟩⟩
    | succ c => exact ⟨op, hop, hs _ fun a' w' h1 h2 => h2⟩
   intro R hRR
   split at h
   · rename_i hg
     unfold gM2r at h
     split at h
     · rename_i x' F' h0
       obtain ⟨hcl, h⟩ := cnd' h
       obtain ⟨F1, h1, rfl⟩ := joinF_eq h
       refine IH w0 G0 D0 _ _ _ _ _ _ _ _ h0 L w hI hH e a _ [] hE hR (gd_of hR hg) fun a' w' L' e' hP => ?_
       have hk : (cl && F'.wr.all (fun i => !hasN is i)) = true → ∀ i, hasN is i = true → L'[i]? = L0[i]? := fun hb => by
        obtain ⟨hb1, hb2⟩ := Bool.and_eq_true_iff.1 hb
        exact keep_at hl (hc hb1) hb2 hP.fr
       refine hRR _ _ (fun h0 => ?_) ?_
       · subst h0
         exact sw_mask hP.inv (hk (by simpa using hcl))
       · exact IH w0 G0 D0 _ _ _ _ _ _ _ _ h1 L' w' hP.inv hP.hs e' a' Q L0 hP.env hP.es (fun i hi => fr_len hP.ext (hl i hi)) hk fun a2 w2 L2 e2 hP2 => hQ _ _ _ _ (hP.trans hP2)
     · cases h
   · rename_i hg
     refine wpList_no (gd_wanted hE (gd_of hR hg)) ?_
     unfold gM2u at h
     split at h
     · rename_i d hd
       obtain ⟨hb, h⟩ := cnd' h
       obtain ⟨hb, hcl⟩ := Bool.and_eq_true_iff.1 hb
       rw [hd]
       refine hRR _ _ (fun h0 => ?_) ?_
       · subst h0
         exact sw_mask hI (hc (by simpa using hcl))
       · exact IH w0 G0 D0 _ _ _ _ _ _ _ _ h L w hI hH _ _ Q L0 (hE.put hb undef) (hR.put RV.dat) hl hc hQ
     · rename_i hd
       obtain ⟨hcl, h⟩ := cnd' h
       rw [hd]
       refine hRR _ _ (fun h0 => ?_) ?_
       · subst h0
         exact sw_mask hI (hc (by simpa using hcl))
       · exact IH w0 G0 D0 _ _ _ _ _ _ _ _ h L w hI hH e _ Q L0 (hE.put_none _) hR hl hc hQ
   · cases h
 · cases h
theorem orE_at {q : Nat → Nat → Bool} {E1 E2 : Trie AV} : ∀ {n t : Nat} {v : AV}, (orE q E1 E2 n).get t = some v → E1.get t = some v ∧ ∃ u, E2.get t = some u ∧ eqA q v u = true
 | 0, t, v, h => by cases h
 | n + 1, t, v, h => by
  have h : (orE1 q n (orE q E1 E2 n) (E2.get n) (E1.get n)).get t = some v := h
  unfold orE1 at h
  split at h
  · rename_i v' hv
    unfold orE2 at h
    split at h
    · rename_i u hu
      cases hb : eqA q v' u with
      | false => rw [hb] at h; exact orE_at h
      | true =>
       rw [hb] at h
       rcases Trie.get_set _ _ _ _ _ _ h with ⟨rfl, rfl⟩ | ⟨_, h2⟩
       · exact ⟨hv, u, hu, hb⟩
       · exact orE_at h2
    · exact orE_at h
  · exact orE_at h
theorem oxO_at {q : Nat → Nat → Bool} {H1 H2 H : Trie AO} {sz0 sz1 : Nat} {τ : List Nat} : ∀ {l : List Nat} {i : Nat} {o : AO}, (oxO q H1 H2 sz0 sz1 τ H l).get i = some o →
 (i < sz1 ∧ (o = .gone ∨ ∃ p' u, orP sz0 τ i = some p' ∧ H1.get i = some o ∧ H2.get p' = some u ∧ eqO q o u = true)) ∨ ((i ∈ l → ¬ i < sz1) ∧ H.get i = some o)
 | [], i, o, h => .inr ⟨by simp, h⟩
 | p :: l, i, o, h => by
  have h : (Bool.rec (motive := fun _ => Trie AO) (oxO q H1 H2 sz0 sz1 τ H l) (Trie.set 40 (oxO q H1 H2 sz0 sz1 τ H l) p (orV q H2 (orP sz0 τ p) (H1.get p))) (Nat.blt p sz1)).get i = some o := h
  cases hb : Nat.blt p sz1 with
  | false =>
   rw [hb] at h
   rcases oxO_at h with h1 | ⟨h1, h2⟩
   · exact .inl h1
   · refine .inr ⟨fun hm => ?_, h2⟩
     rcases List.mem_cons.1 hm with rfl | hm
     · intro hlt
       have : Nat.blt i sz1 = true := by simpa [Nat.blt_eq] using hlt
       rw [this] at hb; cases hb
     · exact h1 hm
  | true =>
   rw [hb] at h
   have hlt : p < sz1 := by simpa [Nat.blt_eq] using hb
   rcases Trie.get_set _ _ _ _ _ _ h with ⟨rfl, rfl⟩ | ⟨hne, h2⟩
   · refine .inl ⟨hlt, ?_⟩
     unfold orV
     split
     · rename_i o ho
       unfold orV2
       split
       · rename_i p' hp
         unfold orV3
         split
         · rename_i u hu
           cases he : eqO q o u with
           | false => exact .inl rfl
           | true => exact .inr ⟨p', u, hp, ho, hu, he⟩
         · exact .inl rfl
       · exact .inl rfl
     · exact .inl rfl
   · rcases oxO_at h2 with h1 | ⟨h1, h2⟩
     · exact .inl h1
     · refine .inr ⟨fun hm => ?_, h2⟩
       rcases List.mem_cons.1 hm with rfl | hm
       · exact absurd rfl hne
       · exact h1 hm
theorem allGe_of {sz : Nat} : ∀ {l : List Nat}, allGe sz l = true → ∀ x, x ∈ l → sz ≤ x
 | [], _, x, hx => by simp at hx
 | y :: l, h, x, hx => by
  have h : Bool.rec (motive := fun _ => Bool) false (allGe sz l) (Nat.ble sz y) = true := h
  obtain ⟨h1, h2⟩ := bool_rec h
  rcases List.mem_cons.1 hx with rfl | hx
  · exact Nat.le_of_ble_eq_true h1
  · exact allGe_of h2 x hx
theorem lenN_eq : ∀ l : List Nat, lenN l = l.length
 | [] => rfl
 | x :: l => by show Nat.succ (lenN l) = _; rw [lenN_eq l]; rfl
theorem allLt_mem {sz : Nat} : ∀ {l : List Nat}, allLt sz l = true → ∀ x, x ∈ l → x < sz
 | [], _, x, hx => by simp at hx
 | y :: l, h, x, hx => by
  simp only [allLt] at h
  cases hb : Nat.blt y sz with
  | false => rw [hb] at h; cases h
  | true =>
   rw [hb] at h
   rcases List.mem_cons.1 hx with rfl | hx
   · simpa [Nat.blt_eq] using hb
   · exact allLt_mem h x hx
theorem orQ_at {sz0 : Nat} {τ : List Nat} {i i' : Nat} (h : orQ sz0 τ i i' = true) : (List.range sz0 ++ τ)[i]? = some i' := by
 unfold orQ at h
 cases hb : Nat.blt i sz0 with
 | true =>
  rw [hb] at h
  obtain rfl := Nat.eq_of_beq_eq_true h
  have : i < sz0 := by simpa [Nat.blt_eq] using hb
  rw [List.getElem?_append_left (by simpa using this)]
  simp [this]
 | false =>
  rw [hb] at h
  have : sz0 ≤ i := by
   rcases Nat.lt_or_ge i sz0 with h1 | h1
   · have : Nat.blt i sz0 = true := by simpa [Nat.blt_eq] using h1
     rw [this] at hb; cases hb
   · exact h1
  rw [List.getElem?_append_right (by simpa using this), List.length_range]
  have h : eqP1 i' (nthN τ (i - sz0)) = true := h
  rw [nthN_eq] at h
  cases hn : τ[i - sz0]? with
  | none => rw [hn] at h; cases h
  | some p => rw [hn] at h; rw [Nat.eq_of_beq_eq_true h]
theorem orP_at {sz0 : Nat} {τ : List Nat} {i i' : Nat} (h : orP sz0 τ i = some i') : (List.range sz0 ++ τ)[i]? = some i' := by
 unfold orP at h
 cases hb : Nat.blt i sz0 with
 | true =>
  rw [hb] at h
  cases h
  have : i < sz0 := by simpa [Nat.blt_eq] using hb
  rw [List.getElem?_append_left (by simpa using this)]
  simp [this]
 | false =>
  rw [hb] at h
  have : sz0 ≤ i := by
   rcases Nat.lt_or_ge i sz0 with h1 | h1
   · have : Nat.blt i sz0 = true := by simpa [Nat.blt_eq] using h1
     rw [this] at hb; cases hb
   · exact h1
  rw [List.getElem?_append_right (by simpa using this), List.length_range, ← nthN_eq]
  exact h
theorem or_post1 {F1 F2 : Fin} {τ : List Nat} (hH : HS H sz L) (h : gOr3 n H sz F1 F2 τ = some (x, F)) {a' : Act} {w' : World} {L' : List Rs} {e' : EL} (hP : Post w0 G0 D0 G n L F1 a' w' L' e') : Post w0 G0 D0 G n L F a' w' L' e' := by
 unfold gOr3 at h
 obtain ⟨hb, h⟩ := cnd' h
 cases h
 refine ⟨hP.ext, ⟨hP.hs.len, fun i o hi => ?_⟩, fun j hj hn => hP.fr j hj fun hm => hn (List.mem_append_left _ hm), hP.env, fun t v ht => hP.es t v (orE_at ht).1, hP.inv⟩
 rcases oxO_at hi with ⟨h1, h2⟩ | ⟨h1, h2⟩
 · rcases h2 with rfl | ⟨p', u, _, h3, _⟩
   · have : i < L'.length := by rw [hP.hs.len]; exact h1
     exact ⟨_, List.getElem?_eq_getElem this, by simp only [RO]⟩
   · exact hP.hs.obj _ _ h3
 · obtain ⟨s, h3, h4⟩ := hH.obj _ _ h2
   have hlt : i < L.length := (List.getElem?_eq_some_iff.1 h3).1
   have hi1 : i < F1.sz := by
    simp only [Bool.and_eq_true] at hb
    have := Nat.eq_of_beq_eq_true hb.2
    rw [hH.len] at hlt; omega
   refine ⟨s, ?_, h4.mono hP.ext⟩
   rw [hP.fr i hlt fun hm => h1 (by simp [hm]) hi1]; exact h3
theorem or_post2 {F1 F2 : Fin} {τ : List Nat} (hH : HS H sz L) (h : gOr3 n H sz F1 F2 τ = some (x, F)) {a' : Act} {w' : World} {L' : List Rs} {e' : EL} (hP : Post w0 G0 D0 G n L F2 a' w' L' e') : ∃ L2, Post w0 G0 D0 G n L F a' w' L2 e' := by
 unfold gOr3 at h
 obtain ⟨hb, h⟩ := cnd' h
 cases h
 simp only [Bool.and_eq_true] at hb
 obtain ⟨⟨⟨⟨b1, b2⟩, b3⟩, b4⟩, b5⟩ := hb
 have b4 := Nat.eq_of_beq_eq_true b4
 have b5 := Nat.eq_of_beq_eq_true b5
 rw [lenN_eq] at b5
 have hL : L.length = sz := hH.len
 have hL' : L'.length = F2.sz := hP.hs.len
 have hlt : ∀ p, p ∈ List.range sz ++ τ → p < L'.length := fun p hp => by
  rcases List.mem_append.1 hp with hp | hp
  · have := List.mem_range.1 hp; omega
  · rw [hL']; exact allLt_mem b3 p hp
 obtain ⟨Ls, hp, hpl⟩ := pick_some hlt
 have hnd : (List.range sz ++ τ).Nodup := List.nodup_append.2 ⟨List.nodup_range, ndN_of b1, fun a ha b hb' e => by
  have h1 := List.mem_range.1 ha
  have h2 := allGe_of b2 b hb'
  omega⟩
 have hat : ∀ i i', (List.range sz ++ τ)[i]? = some i' → Ls[i]? = L'[i']? := fun i i' hi => pick_at hp i i' hi
 have hold : ∀ i, i < sz → Ls[i]? = L'[i]? := fun i hi => hat i i (by rw [List.getElem?_append_left (by simpa using hi)]; simp [hi])
 have hq : ∀ i i', orQ sz τ i i' = true → (Ls.map Rs.pl)[i]? = (L'.map Rs.pl)[i']? := fun i i' hi => by rw [List.getElem?_map, List.getElem?_map, hat i i' (orQ_at hi)]
 have hext : Ext (L.map Rs.pl) (Ls.map Rs.pl) := fun i p hi => by
  have hil : i < sz := by rw [← hL]; simpa using (List.getElem?_eq_some_iff.1 hi).1
  have := hP.ext i p hi
  rw [List.getElem?_map, hold i hil, ← List.getElem?_map]; exact this
 have hlen : Ls.length = F1.sz := by rw [hpl]; simp; omega
 refine ⟨Ls, hext, ⟨hlen, fun i o hi => ?_⟩, fun j hj hn => ?_, hP.env, fun t v ht => ?_, hP.inv.pick _ hnd hp⟩
 · rcases oxO_at hi with ⟨h1, h2⟩ | ⟨h1, h2⟩
   · rcases h2 with rfl | ⟨p', u, h3, h4, h5, h6⟩
     · have : i < Ls.length := by rw [hlen]; exact h1
       exact ⟨_, List.getElem?_eq_getElem this, by simp only [RO]⟩
     · obtain ⟨s, k1, k2⟩ := hP.hs.obj _ _ h5
       exact ⟨s, (hat i p' (orP_at h3)).trans k1, eqO_RO hq h6 k2⟩
   · obtain ⟨s, h3, h4⟩ := hH.obj _ _ h2
     have hil : i < L.length := (List.getElem?_eq_some_iff.1 h3).1
     refine ⟨s, ?_, h4.mono hext⟩
     rw [hold i (by omega), hP.fr i hil fun hm => h1 (by simp [hm]) (by omega)]; exact h3
 · rw [hold j (by omega), hP.fr j hj fun hm => hn (List.mem_append_right _ hm)]
 · obtain ⟨h1, u, h2, h3⟩ := orE_at ht
   obtain ⟨r, h4, h5⟩ := hP.es t u h2
   exact ⟨r, h4, eqA_RV hq v u h3 h5⟩
theorem mix_run' (hT : T.Ok P) (IH : Sd P G k rec) {all : Array Oper} {is : List Nat} {cl : Bool} {o : Ord} (h : gMix T P rec all is cl f n E H sz o = some (x, F)) (hI : Inv w0 G0 D0 G L w) (hH : HS H sz L) : Good P w0 G0 D0 G (k + 1) (.mix all is cl o) n E x F L w := by
 unfold gMix at h
 split at h
 · obtain ⟨rfl, rfl⟩ := fin0_eq h
   exact fun e a Q L0 hE hR hl hc hQ => hQ _ _ _ _ (post0 hI hH hE hR)
 · exact mix0_run hT IH h hI hH
 · exact mix1_run hT IH h hI hH
 · exact mix2_run IH h hI hH
 · rename_i k' c l r
   obtain ⟨hc, h⟩ := cnd' h
   unfold gOr at h
   split at h
   · rename_i x1 F1 h1
     unfold gOr2 at h
     split at h
     · rename_i x2 F2 h2
       intro e a Q L0 hE hR hl hcl hQ
       refine ⟨?_, IH w0 G0 D0 _ _ _ _ _ _ _ _ h2 L w hI hH e a Q L0 hE hR hl hcl fun a' w' L' e' hP => ?_⟩
       · have := IH w0 G0 D0 _ _ _ _ _ _ _ _ h1 L w hI hH e a Q L0 hE hR hl hcl fun a' w' L' e' hP => hQ _ _ _ _ (or_post1 hH h hP)
         match c, hc, this with
         | 2, _, ⟨o, ho, hw⟩ =>
          refine ⟨o, ho, ?_⟩
          have e1 : (fun a' w' => ((2 : Nat) = 2 → Sw G (mask is L0) w') ∧ wpMix P all Q (Sw G (mask is L0)) l a' w') = fun a' w' => Sw G (mask is L0) w' ∧ wpMix P all Q (Sw G (mask is L0)) l a' w' := by
           funext a' w'; simp
          rw [e1]; exact hw
         | c + 3, _, ⟨o, ho, hw⟩ =>
          refine ⟨o, ho, ?_⟩
          have e1 : (fun a' w' => (c + 3 = 2 → Sw G (mask is L0) w') ∧ wpMix P all Q (Sw G (mask is L0)) l a' w') = fun a' w' => wpMix P all Q (Sw G (mask is L0)) l a' w' := by
           funext a' w'; simp
          rw [e1]; exact hw
       · obtain ⟨L2, hP2⟩ := or_post2 hH h hP
         exact hQ _ _ _ _ hP2
     · cases h
   · cases h
theorem call_run' (hT : T.Ok P) (hK : KOk P G KT) (IH : Sd P G k rec) {g : Nat} {vs : List AV} (h : gCall T P rec g vs H sz (KT g vs H) = some (x, F)) (hI : Inv w0 G0 D0 G L w) (hH : HS H sz L) : Good P w0 G0 D0 G (k + 1) (.call g vs) n E x F L w := by
 unfold gCall at h
 cases hv : KT g vs H with
 | some v =>
  rw [hv] at h
  cases h
  obtain ⟨h1, h2⟩ := hK g vs H v hv
  refine ⟨h1, fun rs hrs => (h2 w0 G0 D0 L sz w rs hI hH hrs).mono ?_⟩
  rintro e' w' ⟨r, Ls, L2, rfl, h0, h3, h4, h5, h6⟩
  refine ⟨r, L ++ L2, rfl, ?_, ext_apps L L2, hH.addO h0 h3 h5, fun j hj _ => List.getElem?_append_left hj, h6⟩
  rw [← hH.len]
  exact RV.sh (shP_at h0) _ h4
 | none =>
  rw [hv] at h
  dsimp only at h
  unfold gCall1 at h
  split at h
  · rename_i fn hfn
    unfold gCall2 at h
    split at h
    · rename_i c hc
      obtain ⟨hb, h⟩ := cnd' h
      obtain ⟨hb1, hb2⟩ := Bool.and_eq_true_iff.1 hb
      refine ⟨⟨fn, hfn, by simp [hc], by simpa using hb1⟩, fun rs hrs => ?_⟩
      refine calls_in fn.ntmps hfn hc rfl (by rw [hrs.len]; exact hb2) fun a hE => ?_
      have hR : ES (argsA 0 vs) (enum 0 rs) (L.map Rs.pl) := ES.args 0 hrs
      unfold gEnd at h
      have fin : ∀ {x0 : Exit} {F0 : Fin}, (x0 = .ret ∨ x0 = .normal) → rec (.code c) g fn.ntmps (argsA 0 vs) H sz = some (x0, F0) → gRes F0 (resA T F0.E F0.H fn.results.toList) = some (x, F) →
       c.wp P (bodyPost P fn fun e' w' => ∃ r L', e' = .returned r ∧ RV (L'.map Rs.pl) F.v r ∧ Ext (L.map Rs.pl) (L'.map Rs.pl) ∧ HS F.H F.sz L' ∧ Fr F.wr L L' ∧ Inv w0 G0 D0 G L' w') a w := by
       intro x0 F0 hx h0 h
       unfold gRes at h
       split at h
       · rename_i vs' hr
         cases h
         refine IH w0 G0 D0 _ _ _ _ _ _ _ _ h0 L w hI hH _ a _ hE hR fun a' w' L' e' hP => ?_
         obtain ⟨rs', h3, h4⟩ := res_of hP.es hP.hs hr
         have := r_retC (fn := fn) (R := fun e' w' => ∃ r L', e' = .returned r ∧ RV (L'.map Rs.pl) (outA vs') r ∧ Ext (L.map Rs.pl) (L'.map Rs.pl) ∧ HS F0.H F0.sz L' ∧ Fr F0.wr L L' ∧ Inv w0 G0 D0 G L' w') hT hP.env hP.inv h3 rfl ⟨_, L', rfl, out_of h4, hP.ext, hP.hs, hP.fr, hP.inv⟩
         rcases hx with rfl | rfl <;> exact this
       · cases h
      split at h
      · rename_i F0 h0; exact fin (.inl rfl) h0 h
      · rename_i F0 h0; exact fin (.inr rfl) h0 h
      · cases h
    · cases h
  · cases h
theorem go_run (hT : T.Ok P) (hm : P.follows .mixedOrders = true) (hK : KOk P G KT) : ∀ k, Sd P G k (go T P OT KT k)
 | 0 => fun _ _ _ _ _ _ _ _ _ _ _ h => by cases h
 | k + 1 => fun w0 G0 D0 t f n E H sz x F h L w hI hH => by
  have IH := go_run hT hm hK k
  rw [go_succ] at h
  cases t with
  | code c => exact code_run hT hm IH h hI hH
  | rounds c => exact rounds_run IH h hI hH
  | again l c r => exact again_run IH h hI hH
  | op all o => exact op_run hT IH h hI hH
  | ops all l => exact ops_run hT IH h hI hH
  | mix all is cl o => exact mix_run' hT IH h hI hH
  | call g vs => exact call_run' hT hK IH h hI hH
noncomputable def objs (H : Trie AO) : List Nat → Option (List (Nat × AO))
 | [] => some []
 | i :: l => match H.get i, objs H l with
  | some o, some r => some ((i, o) :: r)
  | _, _ => none
theorem objs_of {H : Trie AO} : ∀ {is : List Nat} {os : List (Nat × AO)}, objs H is = some os → ∀ j o, (j, o) ∈ os → H.get j = some o
 | [], os, h, j, o, hm => by simp only [objs, Option.some.injEq] at h; subst h; simp at hm
 | i :: l, os, h, j, o, hm => by
  simp only [objs] at h
  split at h
  · rename_i o' r h1 h2
    cases h
    rcases List.mem_cons.1 hm with hm | hm
    · cases hm; exact h1
    · exact objs_of h2 j o hm
  · cases h
noncomputable def out2 (is : List Nat) : R4 → Option Kn
 | some (_, F) => match objs F.H is with
  | some os => some ⟨F.sz, os, F.v⟩
  | none => none
 | none => none
noncomputable def ran (T : Tab) (P : Program) (OT : OTab) (KT : KTab) (k g : Nat) (vs : List AV) (is : List Nat) : Option Kn := out2 is (go T P OT KT k (.call g vs) 0 0 .leaf .leaf 0)
def KOk1 (P : Program) (g : Nat) (vs : List AV) (u : Kn) : Prop := Callable P g ∧ ∀ (w0 : World) (G0 : GH) (D0 : List Nat) (G : GH) (L : List Rs) (w : World) (rs : List Value), Inv w0 G0 D0 G L w → RVs (L.map Rs.pl) vs rs →
 Calls P g ⟨rs⟩ w fun e' w' => ∃ r L2, e' = .returned r ∧ L2.length = u.n ∧ RV (L2.map Rs.pl) u.v r ∧ (∀ j o, (j, o) ∈ u.os → ∃ s, L2[j]? = some s ∧ RO (L2.map Rs.pl) o s) ∧ Inv w0 G0 D0 G (L ++ L2) w'
def AV.flat : AV → Bool
 | .dat _ => true
 | _ => false
theorem flat_of {ps : List Pl} : ∀ {vs : List AV} {rs : List Value}, vs.all AV.flat = true → RVs ps vs rs → RVs [] vs rs
 | [], rs, _, h => by simpa only [RVs] using h
 | v :: l, rs, hf, h => by
  simp only [List.all_cons, Bool.and_eq_true] at hf
  simp only [RVs] at h ⊢
  obtain ⟨r, rs', h1, h2, h3⟩ := h
  refine ⟨r, rs', h1, ?_, flat_of hf.2 h3⟩
  cases v <;> first | (cases hf.1; done) | (simpa only [RV] using h2)
theorem ran_ok (hT : T.Ok P) (hm : P.follows .mixedOrders = true) (hK : ∀ G, KOk P G KT) {k g : Nat} {vs : List AV} {is : List Nat} {u : Kn} (h : ran T P OT KT k g vs is = some u) (hf : vs.all AV.flat = true) : KOk1 P g vs u := by
 unfold ran out2 at h
 split at h
 · rename_i x F h1
   split at h
   · rename_i os ho
     cases h
     have key : ∀ w0 G0 D0 G w, Inv w0 G0 D0 G [] w → _ := fun w0 G0 D0 G w hI => go_run (OT := OT) hT hm (hK G) k w0 G0 D0 _ _ _ _ _ _ _ _ h1 [] w hI ⟨rfl, fun i o ho => by simp [Trie.get_leaf] at ho⟩
     have hc : Callable P g := by
      obtain ⟨w⟩ : Nonempty World := ⟨default⟩
      exact (key w (fun _ => none) [] (fun _ => none) w (Inv.start fun _ _ h => by cases h)).1
     refine ⟨hc, fun w0 G0 D0 G L w rs hI hrs => ?_⟩
     refine ((key w G [] G w (Inv.start hI.inG)).2 rs (flat_of hf hrs)).mono ?_
     rintro e' w' ⟨r, L', rfl, h4, _, h5, _, h6⟩
     refine ⟨r, L', rfl, h5.len, h4, fun j o hm => h5.obj j o (objs_of ho j o hm), ?_⟩
     exact (Inv.back (Lp := []) (Lr := L) hI h6).perm List.perm_append_comm
   · cases h
 · cases h
noncomputable def eqS (v u : AV) : Bool := match v, u with
 | .dat (.string a), .dat (.string b) => eqL a.data.toList b.data.toList
 | .dat (.int .i64 a), .dat (.int .i64 b) => eqI a b
 | _, _ => false
noncomputable def eqSs : List AV → List AV → Bool
 | [], [] => true
 | v :: l, u :: m => bif eqSs l m then eqS v u else false
 | _, _ => false
theorem eqS_eq {v u : AV} (h : eqS v u = true) : v = u := by
 unfold eqS at h
 split at h
 · rw [eqL_str] at h; rw [of_decide_eq_true h]
 · rw [eqI_eq h]
 · cases h
theorem eqSs_eq : ∀ {l m : List AV}, eqSs l m = true → l = m
 | [], [], _ => rfl
 | v :: l, u :: m, h => by
  simp only [eqSs] at h
  cases hb : eqSs l m with
  | false => rw [hb] at h; cases h
  | true => rw [hb] at h; rw [eqS_eq h, eqSs_eq hb]
 | [], _ :: _, h => by cases h
 | _ :: _, [], h => by cases h
noncomputable def kt2 (vs : List AV) : List (List AV × Kn) → Option Kn
 | [] => none
 | (us, u) :: l => bif eqSs vs us then some u else kt2 vs l
noncomputable def kn0 : Option Kn → Option (List Nat × Kn)
 | some u => some ([], u)
 | none => none
noncomputable def kt (l : List (Nat × List (List AV × Kn))) (g : Nat) (vs : List AV) (H : Trie AO) : Option (List Nat × Kn) := match l with
 | [] => none
 | (g', m) :: l => bif Nat.beq g' g then kn0 (kt2 vs m) else kt l g vs H
theorem kt2_mem {vs : List AV} {u : Kn} : ∀ {l : List (List AV × Kn)}, kt2 vs l = some u → (vs, u) ∈ l
 | [], h => by cases h
 | (us, u') :: l, h => by
  simp only [kt2] at h
  cases hb : eqSs vs us with
  | true => rw [hb] at h; cases h; rw [eqSs_eq hb]; exact List.mem_cons_self
  | false => rw [hb] at h; exact List.mem_cons_of_mem _ (kt2_mem h)
def KsOk (P : Program) : List (Nat × List (List AV × Kn)) → Prop
 | [] => True
 | (g, m) :: l => (∀ x, x ∈ m → KOk1 P g x.1 x.2) ∧ KsOk P l
theorem kt_ok : ∀ {l : List (Nat × List (List AV × Kn))}, KsOk P l → ∀ G, KOk P G (kt l)
 | [], _, G, g, vs, H, u, h => by cases h
 | (g', m) :: l, hl, G, g, vs, H, u, h => by
  simp only [kt] at h
  cases hb : Nat.beq g' g with
  | true =>
   rw [hb] at h
   obtain rfl := Nat.eq_of_beq_eq_true hb
   cases hk : kt2 vs m with
   | none => rw [hk] at h; cases h
   | some u' =>
    rw [hk] at h
    cases h
    obtain ⟨h1, h2⟩ := hl.1 _ (kt2_mem hk)
    exact ⟨h1, fun w0 G0 D0 L sz w rs hI _ hrs => (h2 w0 G0 D0 G L w rs hI hrs).mono fun e' w' ⟨r, L2, k1, k2⟩ => ⟨r, [], L2, k1, rfl, k2⟩⟩
  | false => rw [hb] at h; exact kt_ok hl.2 G g vs H u h
theorem yes_ok {g : Nat} {u : Kn} (h : KOk1 P g [] u) {b : Bool} (hu : u.v = .dat (.bool b)) {w : World} {G : GH} (hI : Inv w G [] G [] w) : Calls P g #[] w (Ret w G [] fun G' L' v => L' = [] ∧ v = .bool b) := by
 refine (h.2 w G [] G [] w [] hI RVs.nil).mono ?_
 rintro e' w' ⟨r, L2, rfl, _, h3, _, h4⟩
 rw [hu] at h3
 obtain rfl := h3.ofdat
 exact ⟨_, G, [], rfl, h4.nil, rfl, rfl⟩
end
end Go.Proofs.YtknhbphhdfknaaaGreatDoor
