import Derived.Test.YtknhbphhdfknaaaGreatDoorMg
set_option linter.unusedVariables false
set_option linter.unusedSimpArgs false
namespace Go.Proofs.YtknhbphhdfknaaaGreatDoor
open Go.RowKit
structure Kp where
 vs : List AV
 os : List AO
 u : Kn
noncomputable def km3 (H : Trie AO) (vs : List AV) (x : Kp) (σ : List Nat) : Option (List Nat × Kn) := bif ndN σ then (bif eqAs (eqP σ) x.vs vs then (bif ckO H σ x.os σ then some (σ, x.u) else none) else none) else none
noncomputable def km2 (H : Trie AO) (vs : List AV) (l : List Kp) : Option (List Nat × Kn) := List.rec (motive := fun _ => Option (List Nat × Kn)) none (fun x _ ih => Option.rec (motive := fun _ => Option (List Nat × Kn)) ih (fun y => some y) (km3 H vs x (sgm (mC H x.os 0 (mVs x.vs vs [])) x.os 0))) l
noncomputable def km (l : List (Nat × List Kp)) (g : Nat) (vs : List AV) (H : Trie AO) : Option (List Nat × Kn) := List.rec (motive := fun _ => Option (List Nat × Kn)) none (fun x _ ih => Bool.rec (motive := fun _ => Option (List Nat × Kn)) ih (km2 H vs x.2) (Nat.beq x.1 g)) l
theorem km_cons (x : Nat × List Kp) (l : List (Nat × List Kp)) (g : Nat) (vs : List AV) (H : Trie AO) : km (x :: l) g vs H = bif Nat.beq x.1 g then km2 H vs x.2 else km l g vs H := by
 show Bool.rec (motive := fun _ => Option (List Nat × Kn)) (km l g vs H) (km2 H vs x.2) (Nat.beq x.1 g) = _
 cases Nat.beq x.1 g <;> rfl
theorem km2_cons (x : Kp) (l : List Kp) (vs : List AV) (H : Trie AO) : km2 H vs (x :: l) = Option.rec (motive := fun _ => Option (List Nat × Kn)) (km2 H vs l) (fun y => some y) (km3 H vs x (sgm (mC H x.os 0 (mVs x.vs vs [])) x.os 0)) := rfl
noncomputable def mkH : Nat → List AO → Trie AO
 | _, [] => .leaf
 | j, o :: l => Trie.set 40 (mkH (j + 1) l) j o
theorem mkH_get : ∀ {l : List AO} {j i : Nat} {o : AO}, (mkH j l).get i = some o → ∃ q, i = j + q ∧ l[q]? = some o
 | [], j, i, o, h => by cases h
 | u :: l, j, i, o, h => by
  rcases Trie.get_set _ _ _ _ _ _ h with ⟨rfl, rfl⟩ | ⟨_, h2⟩
  · exact ⟨0, rfl, rfl⟩
  · obtain ⟨q, rfl, h3⟩ := mkH_get h2
    exact ⟨q + 1, by omega, by simpa using h3⟩
def KOkM (P : Program) (g : Nat) (x : Kp) : Prop := Callable P g ∧ ∀ (w0 : World) (G0 : GH) (D0 : List Nat) (G : GH) (Ls : List Rs) (w : World) (rs : List Value), Inv w0 G0 D0 G Ls w → HS (mkH 0 x.os) x.os.length Ls → RVs (Ls.map Rs.pl) x.vs rs →
 Calls P g ⟨rs⟩ w fun e' w' => ∃ r L2, e' = .returned r ∧ L2.length = x.u.n ∧ RV ((Ls ++ L2).map Rs.pl) x.u.v r ∧ (∀ j o, (j, o) ∈ x.u.os → ∃ s, L2[j]? = some s ∧ RO ((Ls ++ L2).map Rs.pl) o s) ∧ Inv w0 G0 D0 G (Ls ++ L2) w'
theorem km3_ok {P : Program} {G : GH} {g : Nat} {x : Kp} (hx : KOkM P g x) {vs : List AV} {H : Trie AO} {σ : List Nat} {y : List Nat × Kn} (h : km3 H vs x σ = some y) : Callable P g ∧ ∀ (w0 : World) (G0 : GH) (D0 : List Nat) (L : List Rs) (sz : Nat) (w : World) (rs : List Value), Inv w0 G0 D0 G L w → HS H sz L → RVs (L.map Rs.pl) vs rs →
 Calls P g ⟨rs⟩ w fun e' w' => ∃ r Ls L2, e' = .returned r ∧ pickL y.1 L = some Ls ∧ L2.length = y.2.n ∧ RV ((Ls ++ L2).map Rs.pl) y.2.v r ∧ (∀ j o, (j, o) ∈ y.2.os → ∃ s, L2[j]? = some s ∧ RO ((Ls ++ L2).map Rs.pl) o s) ∧ Inv w0 G0 D0 G (L ++ L2) w' := by
 refine ⟨hx.1, fun w0 G0 D0 L sz w rs hI hH hrs => ?_⟩
 unfold km3 at h
 cases h1 : ndN σ with
 | false => rw [h1] at h; cases h
 | true =>
  cases h2 : eqAs (eqP σ) x.vs vs with
  | false => rw [h1, h2] at h; cases h
  | true =>
   cases h3 : ckO H σ x.os σ with
   | false => rw [h1, h2, h3] at h; cases h
   | true =>
    rw [h1, h2, h3] at h
    cases h
    have hlen := ckO_len h3
    have hlt : ∀ p, p ∈ σ → p < L.length := fun p hp => by
     obtain ⟨i, hi⟩ := List.mem_iff_getElem?.1 hp
     have hil : i < x.os.length := by rw [← hlen]; exact (List.getElem?_eq_some_iff.1 hi).1
     obtain ⟨p', u, e1, e2, _⟩ := ckO_at h3 i _ (List.getElem?_eq_getElem hil)
     rw [hi] at e1; cases e1
     obtain ⟨s, hs, _⟩ := hH.obj _ _ e2
     exact (List.getElem?_eq_some_iff.1 hs).1
    obtain ⟨Ls, hp, hpl⟩ := pick_some hlt
    obtain ⟨R, hR⟩ := pick_perm hp (ndN_of h1)
    have hI2 := hI.perm hR
    have hHs : HS (mkH 0 x.os) x.os.length Ls := by
     refine ⟨by rw [hpl, hlen], fun i o hi => ?_⟩
     obtain ⟨q, rfl, hq⟩ := mkH_get hi
     rw [Nat.zero_add]
     obtain ⟨p, u, e1, e2, e3⟩ := ckO_at h3 q o hq
     obtain ⟨s, hs, hs2⟩ := hH.obj _ _ e2
     exact ⟨s, (pick_at hp q p e1).trans hs, eqO_RO (fun _ _ => eqP_at hp) e3 hs2⟩
    refine (hx.2 w G (feet Ls) G Ls w rs (Inv.pass hI2) hHs (eqA_RVs (fun _ _ => eqP_at hp) _ _ h2 hrs)).mono ?_
    rintro e' w' ⟨r, L2, rfl, k1, k2, k3, k4⟩
    refine ⟨r, Ls, L2, rfl, hp, k1, k2, k3, (Inv.back hI2 k4).perm ?_⟩
    refine (hR.symm.append_right L2).trans ?_
    rw [List.append_assoc, List.append_assoc]
    exact List.Perm.append_left Ls List.perm_append_comm
def KmOk (P : Program) : List (Nat × List Kp) → Prop
 | [] => True
 | (g, m) :: l => (∀ x, x ∈ m → KOkM P g x) ∧ KmOk P l
theorem km_ok {P : Program} : ∀ {l : List (Nat × List Kp)}, KmOk P l → ∀ G, KOk P G (km l)
 | [], _, G, g, vs, H, u, h => by cases h
 | (g', m) :: l, hl, G, g, vs, H, u, h => by
  rw [km_cons] at h
  cases hb : Nat.beq g' g with
  | false => rw [hb] at h; exact km_ok hl.2 G g vs H u h
  | true =>
   rw [hb] at h
   obtain rfl := Nat.eq_of_beq_eq_true hb
   have key : ∀ {m : List Kp}, (∀ x, x ∈ m → KOkM P g' x) → km2 H vs m = some u → ∃ x σ, KOkM P g' x ∧ km3 H vs x σ = some u := by
    intro m
    induction m with
    | nil => intro _ h; cases h
    | cons x l ih =>
     intro hm h
     rw [km2_cons] at h
     cases hk : km3 H vs x (sgm (mC H x.os 0 (mVs x.vs vs [])) x.os 0) with
     | none => rw [hk] at h; exact ih (fun y hy => hm y (List.mem_cons_of_mem _ hy)) h
     | some y' => rw [hk] at h; cases h; exact ⟨x, _, hm x List.mem_cons_self, hk⟩
   obtain ⟨x, σ, h1, h2⟩ := key hl.1 h
   exact km3_ok h1 h2
noncomputable def kor (a b : KTab) : KTab := fun g vs H => Option.rec (motive := fun _ => Option (List Nat × Kn)) (b g vs H) (fun x => some x) (a g vs H)
theorem kor_ok {P : Program} {G : GH} {a b : KTab} (ha : KOk P G a) (hb : KOk P G b) : KOk P G (kor a b) := fun g vs H x h => by
 unfold kor at h
 cases hx : a g vs H with
 | none => rw [hx] at h; exact hb g vs H x h
 | some y' => rw [hx] at h; cases h; exact ha g vs H _ hx
noncomputable def objM (n : Nat) (H : Trie AO) : List Nat → Option (List (Nat × AO))
 | [] => some []
 | i :: l => bif Nat.ble n i then (match H.get i, objM n H l with
  | some o, some r => some ((i - n, o) :: r)
  | _, _ => none) else none
noncomputable def outM (n : Nat) (is : List Nat) : R4 → Option Kn
 | some (_, F) => bif F.wr.all (fun i => Nat.ble n i) then (match objM n F.H is with
  | some os => some ⟨F.sz - n, os, F.v⟩
  | none => none) else none
 | none => none
noncomputable def ranM (T : Tab) (P : Program) (OT : OTab) (KT : KTab) (k g : Nat) (vs : List AV) (os : List AO) (is : List Nat) : Option Kn := outM os.length is (go T P OT KT k (.call g vs) 0 0 .leaf (mkH 0 os) os.length)
end Go.Proofs.YtknhbphhdfknaaaGreatDoor
