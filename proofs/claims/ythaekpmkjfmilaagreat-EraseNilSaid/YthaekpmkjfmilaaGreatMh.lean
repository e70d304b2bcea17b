/- A machine that evaluates calls of closed functions, eighth part: calls that are known by what stands in memory. No program in sight. -/
import Derived.Test.YthaekpmkjfmilaaGreatMg
set_option linter.unusedVariables false
set_option linter.unusedSimpArgs false
namespace Go.Proofs.YthaekpmkjfmilaaGreat
open Go.RowKit
/-! ### Is it the same, its places called otherwise? -/
noncomputable def kN (k : IntKind) : Nat := IntKind.rec 0 1 2 3 4 5 6 7 k
theorem kN_inj {k k' : IntKind} (h : kN k = kN k') : k = k' := by cases k <;> cases k' <;> first | rfl | (exact absurd h (by decide))
noncomputable def eqW : Value → Value → Bool
  | .bool a, .bool b => bif a then b else !b
  | .int k a, .int k' b => bif Nat.beq (kN k) (kN k') then eqI a b else false
  | .string a, .string b => eqL a.data.toList b.data.toList
  | .pointer none, .pointer none => true
  | .slice none n c, .slice none n' c' => Nat.beq n n' && Nat.beq c c'
  | .map none, .map none => true
  | .nilFunc, .nilFunc => true
  | _, _ => false
theorem eqW_eq {v u : Value} (h : eqW v u = true) : v = u := by
  unfold eqW at h
  split at h
  · rename_i a b; cases a <;> cases b <;> simp_all
  · rename_i k a k' b
    cases hb : Nat.beq (kN k) (kN k') with
    | false => rw [hb] at h; cases h
    | true => rw [hb] at h; rw [kN_inj (Nat.eq_of_beq_eq_true hb), eqI_eq h]
  · rw [eqL_str] at h; rw [of_decide_eq_true h]
  · rfl
  · simp only [Bool.and_eq_true] at h
    rw [Nat.eq_of_beq_eq_true h.1, Nat.eq_of_beq_eq_true h.2]
  · rfl
  · rfl
  · cases h
noncomputable def nthN (σ : List Nat) : Nat → Option Nat := List.rec (motive := fun _ => Nat → Option Nat) (fun _ => none) (fun p _ ih i => Nat.rec (motive := fun _ => Option Nat) (some p) (fun j _ => ih j) i) σ
theorem nthN_eq : ∀ (σ : List Nat) (i : Nat), nthN σ i = σ[i]?
  | [], _ => rfl
  | p :: σ, 0 => rfl
  | p :: σ, i + 1 => by
    show nthN σ i = _
    rw [nthN_eq σ i]; simp
noncomputable def eqP1 (i' : Nat) : Option Nat → Bool
  | some p => Nat.beq p i'
  | none => false
noncomputable def eqP (σ : List Nat) (i i' : Nat) : Bool := eqP1 i' (nthN σ i)
noncomputable def eqA (σ : List Nat) (v : AV) : AV → Bool := AV.rec (motive_1 := fun _ => AV → Bool) (motive_2 := fun _ => List AV → Bool)
  (fun x u => match u with | .dat y => eqW x y | _ => false)
  (fun i o u => match u with | .ptr i' o' => bif eqP σ i i' then Nat.beq o o' else false | _ => false)
  (fun i o u => match u with | .pel i' o' => bif eqP σ i i' then Nat.beq o o' else false | _ => false)
  (fun i lo n sz u => match u with | .sl i' lo' n' sz' => bif eqP σ i i' then (Nat.beq lo lo' && (Nat.beq n n' && Nat.beq sz sz')) else false | _ => false)
  (fun i u => match u with | .mp i' => eqP σ i i' | _ => false)
  (fun _ ih u => match u with | .agg m => ih m | _ => false)
  (fun _ ih u => match u with | .tup m => ih m | _ => false)
  (fun f _ ih u => match u with | .fn g m => bif Nat.beq f g then ih m else false | _ => false)
  (fun m => match m with | [] => true | _ => false)
  (fun _ _ ih ihs m => match m with | u :: m => bif ih u then ihs m else false | [] => false) v
noncomputable def eqAs (σ : List Nat) (l : List AV) : List AV → Bool := List.rec (motive := fun _ => List AV → Bool) (fun m => match m with | [] => true | _ => false) (fun v _ ihs m => match m with | u :: m => bif eqA σ v u then ihs m else false | [] => false) l
theorem eqA_agg (σ : List Nat) (l m : List AV) : eqA σ (.agg l) (.agg m) = eqAs σ l m := by
  induction l generalizing m with
  | nil => rfl
  | cons v l ih =>
    cases m with
    | nil => rfl
    | cons u m =>
      show (bif eqA σ v u then eqA σ (.agg l) (.agg m) else false) = (bif eqA σ v u then eqAs σ l m else false)
      rw [ih]
theorem eqA_tup (σ : List Nat) (l m : List AV) : eqA σ (.tup l) (.tup m) = eqAs σ l m := by
  induction l generalizing m with
  | nil => rfl
  | cons v l ih =>
    cases m with
    | nil => rfl
    | cons u m =>
      show (bif eqA σ v u then eqA σ (.tup l) (.tup m) else false) = (bif eqA σ v u then eqAs σ l m else false)
      rw [ih]
theorem eqA_fn0 (σ : List Nat) (f : Nat) (l m : List AV) : (eqA σ (.fn f l) (.fn f m)) = eqAs σ l m := by
  have hf : Nat.beq f f = true := by simp
  show (bif Nat.beq f f then _ else false) = _
  rw [hf]
  induction l generalizing m with
  | nil => rfl
  | cons v l ih =>
    cases m with
    | nil => rfl
    | cons u m =>
      have := ih m
      simp only [cond_true] at this ⊢
      show (bif eqA σ v u then _ else false) = (bif eqA σ v u then eqAs σ l m else false)
      rw [← this]
section
variable {L Ls : List Rs} {σ : List Nat}
theorem pick_at : ∀ {σ : List Nat} {Ls : List Rs}, pickL σ L = some Ls → ∀ (i p : Nat), σ[i]? = some p → Ls[i]? = L[p]?
  | [], Ls, h, i, p, hi => by simp at hi
  | q :: σ, Ls, h, i, p, hi => by
    simp only [pickL] at h
    split at h
    · rename_i r l h1 h2
      cases h
      cases i with
      | zero => simp at hi; subst hi; simp [h1]
      | succ i => simpa using pick_at h2 i p (by simpa using hi)
    · cases h
theorem eqP_at {i i' : Nat} (h : pickL σ L = some Ls) (he : eqP σ i i' = true) : (Ls.map Rs.pl)[i]? = (L.map Rs.pl)[i']? := by
  unfold eqP at he
  cases hn : nthN σ i with
  | none => rw [hn] at he; cases he
  | some p =>
    rw [hn] at he
    obtain rfl := Nat.eq_of_beq_eq_true he
    rw [nthN_eq] at hn
    rw [List.getElem?_map, List.getElem?_map, pick_at h i p hn]
theorem bif_and {a b : Bool} (h : (bif a then b else false) = true) : a = true ∧ b = true := by cases a <;> simp_all
mutual
theorem eqA_RV (h : pickL σ L = some Ls) : ∀ (v u : AV) {r : Value}, eqA σ v u = true → RV (L.map Rs.pl) u r → RV (Ls.map Rs.pl) v r
  | .dat x, u, r, he, k => by
    cases u <;> first | (cases he; done) | skip
    rename_i y
    have he : eqW x y = true := he
    rw [eqW_eq he]
    simp only [RV] at k ⊢; exact k
  | .ptr i o, u, r, he, k => by
    cases u <;> first | (cases he; done) | skip
    rename_i i' o'
    obtain ⟨h1, h2⟩ := bif_and (show (bif eqP σ i i' then Nat.beq o o' else false) = true from he)
    obtain rfl := Nat.eq_of_beq_eq_true h2
    simp only [RV] at k ⊢; rw [eqP_at h h1]; exact k
  | .pel i o, u, r, he, k => by
    cases u <;> first | (cases he; done) | skip
    rename_i i' o'
    obtain ⟨h1, h2⟩ := bif_and (show (bif eqP σ i i' then Nat.beq o o' else false) = true from he)
    obtain rfl := Nat.eq_of_beq_eq_true h2
    simp only [RV] at k ⊢; rw [eqP_at h h1]; exact k
  | .sl i lo n sz, u, r, he, k => by
    cases u <;> first | (cases he; done) | skip
    rename_i i' lo' n' sz'
    obtain ⟨h1, h2⟩ := bif_and (show (bif eqP σ i i' then (Nat.beq lo lo' && (Nat.beq n n' && Nat.beq sz sz')) else false) = true from he)
    simp only [Bool.and_eq_true] at h2
    obtain ⟨h2, h3, h4⟩ := h2
    obtain rfl := Nat.eq_of_beq_eq_true h2
    obtain rfl := Nat.eq_of_beq_eq_true h3
    obtain rfl := Nat.eq_of_beq_eq_true h4
    simp only [RV] at k ⊢; rw [eqP_at h h1]; exact k
  | .mp i, u, r, he, k => by
    cases u <;> first | (cases he; done) | skip
    rename_i i'
    have h1 : eqP σ i i' = true := he
    simp only [RV] at k ⊢; rw [eqP_at h h1]; exact k
  | .agg l, u, r, he, k => by
    cases u <;> first | (cases he; done) | skip
    rename_i m
    rw [eqA_agg] at he
    simp only [RV] at k ⊢
    obtain ⟨rs, k1, k2⟩ := k; exact ⟨rs, k1, eqA_RVs h l m he k2⟩
  | .tup l, u, r, he, k => by
    cases u <;> first | (cases he; done) | skip
    rename_i m
    rw [eqA_tup] at he
    simp only [RV] at k ⊢
    obtain ⟨rs, k1, k2⟩ := k; exact ⟨rs, k1, eqA_RVs h l m he k2⟩
  | .fn f l, u, r, he, k => by
    cases u <;> first | (cases he; done) | skip
    rename_i g m
    have hf : Nat.beq f g = true := by
      cases hb : Nat.beq f g with
      | true => rfl
      | false =>
        have he : (bif Nat.beq f g then _ else false) = true := he
        rw [hb] at he; cases he
    obtain rfl := Nat.eq_of_beq_eq_true hf
    rw [eqA_fn0] at he
    simp only [RV] at k ⊢
    obtain ⟨rs, k1, k2⟩ := k; exact ⟨rs, k1, eqA_RVs h l m he k2⟩
theorem eqA_RVs (h : pickL σ L = some Ls) : ∀ (l m : List AV) {rs : List Value}, eqAs σ l m = true → RVs (L.map Rs.pl) m rs → RVs (Ls.map Rs.pl) l rs
  | [], m, rs, he, k => by
    cases m with
    | nil => simp only [RVs] at k ⊢; exact k
    | cons u m => cases he
  | v :: l, m, rs, he, k => by
    cases m with
    | nil => cases he
    | cons u m =>
      obtain ⟨h1, h2⟩ := bif_and (show (bif eqA σ v u then eqAs σ l m else false) = true from he)
      simp only [RVs] at k ⊢
      obtain ⟨r, rs', k1, k2, k3⟩ := k
      exact ⟨r, rs', k1, eqA_RV h v u h1 k2, eqA_RVs h l m h2 k3⟩
end
noncomputable def eqKv (l : List (ByteArray × Int)) : List (ByteArray × Int) → Bool := List.rec (motive := fun _ => List (ByteArray × Int) → Bool) (fun m => match m with | [] => true | _ => false) (fun x _ ih m => match m with | y :: m => bif eqL x.1.data.toList y.1.data.toList then (bif eqI x.2 y.2 then ih m else false) else false | [] => false) l
theorem eqKv_eq : ∀ {l m : List (ByteArray × Int)}, eqKv l m = true → l = m
  | [], m, h => by
    cases m with
    | nil => rfl
    | cons u m => cases h
  | x :: l, m, h => by
    cases m with
    | nil => cases h
    | cons y m =>
      obtain ⟨h1, h2⟩ := bif_and (show (bif eqL x.1.data.toList y.1.data.toList then (bif eqI x.2 y.2 then eqKv l m else false) else false) = true from h)
      obtain ⟨h2, h3⟩ := bif_and h2
      rw [eqL_str] at h1
      rw [eqKv_eq h3, Prod.ext (of_decide_eq_true h1) (eqI_eq h2)]
noncomputable def eqO (σ : List Nat) : AO → AO → Bool
  | .blk T l, .blk T' m => bif Nat.beq T T' then eqAs σ l m else false
  | .row te sz n l, .row te' sz' n' m => bif (Nat.beq te te' && (Nat.beq sz sz' && Nat.beq n n')) then eqAs σ l m else false
  | .mp kvs, .mp kvs' => eqKv kvs kvs'
  | _, _ => false
theorem eqO_RO (h : pickL σ L = some Ls) {o u : AO} {s : Rs} (he : eqO σ o u = true) (k : RO (L.map Rs.pl) u s) : RO (Ls.map Rs.pl) o s := by
  unfold eqO at he
  split at he
  · obtain ⟨h1, h2⟩ := bif_and he
    obtain rfl := Nat.eq_of_beq_eq_true h1
    cases s <;> simp only [RO] at k ⊢
    exact ⟨k.1, eqA_RVs h _ _ h2 k.2⟩
  · obtain ⟨h1, h2⟩ := bif_and he
    simp only [Bool.and_eq_true] at h1
    obtain ⟨h1, h3, h4⟩ := h1
    obtain rfl := Nat.eq_of_beq_eq_true h1
    obtain rfl := Nat.eq_of_beq_eq_true h3
    obtain rfl := Nat.eq_of_beq_eq_true h4
    cases s <;> simp only [RO] at k ⊢
    exact ⟨k.1, k.2.1, k.2.2.1, k.2.2.2.1, eqA_RVs h _ _ h2 k.2.2.2.2⟩
  · rw [eqKv_eq he]
    cases s <;> simp only [RO] at k ⊢
    exact k
  · cases he
end
/-! ### Which places are meant -/
noncomputable def lkN (S : List (Nat × Nat)) : Nat → Option Nat := List.rec (motive := fun _ => Nat → Option Nat) (fun _ => none) (fun x _ ih i => Bool.rec (motive := fun _ => Option Nat) (ih i) (some x.2) (Nat.beq x.1 i)) S
noncomputable def adP1 (i i' : Nat) (S : List (Nat × Nat)) : Option Nat → List (Nat × Nat)
  | some _ => S
  | none => (i, i') :: S
noncomputable def adP (i i' : Nat) (S : List (Nat × Nat)) : List (Nat × Nat) := adP1 i i' S (lkN S i)
noncomputable def mV (v : AV) : AV → List (Nat × Nat) → List (Nat × Nat) := AV.rec (motive_1 := fun _ => AV → List (Nat × Nat) → List (Nat × Nat)) (motive_2 := fun _ => List AV → List (Nat × Nat) → List (Nat × Nat))
  (fun _ _ S => S)
  (fun i _ u S => match u with | .ptr i' _ => adP i i' S | _ => S)
  (fun i _ u S => match u with | .pel i' _ => adP i i' S | _ => S)
  (fun i _ _ _ u S => match u with | .sl i' _ _ _ => adP i i' S | _ => S)
  (fun i u S => match u with | .mp i' => adP i i' S | _ => S)
  (fun _ ih u S => match u with | .agg m => ih m S | _ => S)
  (fun _ ih u S => match u with | .tup m => ih m S | _ => S)
  (fun _ _ ih u S => match u with | .fn _ m => ih m S | _ => S)
  (fun _ S => S)
  (fun _ _ ih ihs m S => match m with | u :: m => ihs m (ih u S) | [] => S) v
noncomputable def mVs (l : List AV) : List AV → List (Nat × Nat) → List (Nat × Nat) := List.rec (motive := fun _ => List AV → List (Nat × Nat) → List (Nat × Nat)) (fun _ S => S) (fun v _ ihs m S => match m with | u :: m => ihs m (mV v u S) | [] => S) l
noncomputable def mO (S : List (Nat × Nat)) : AO → Option AO → List (Nat × Nat)
  | .blk _ l, some (.blk _ m) => mVs l m S
  | .row _ _ _ l, some (.row _ _ _ m) => mVs l m S
  | _, _ => S
noncomputable def mC1 (H : Trie AO) (o : AO) (S : List (Nat × Nat)) : Option Nat → List (Nat × Nat)
  | some p => mO S o (H.get p)
  | none => S
noncomputable def mC (H : Trie AO) (l : List AO) : Nat → List (Nat × Nat) → List (Nat × Nat) := List.rec (motive := fun _ => Nat → List (Nat × Nat) → List (Nat × Nat)) (fun _ S => S) (fun o _ ih j S => ih (j + 1) (mC1 H o S (lkN S j))) l
noncomputable def sgm (S : List (Nat × Nat)) (l : List AO) : Nat → List Nat := List.rec (motive := fun _ => Nat → List Nat) (fun _ => []) (fun _ _ ih j => Option.rec (motive := fun _ => List Nat) [] (fun p => p :: ih (j + 1)) (lkN S j)) l
noncomputable def ckO1 (σ : List Nat) (o : AO) : Option AO → Bool
  | some u => eqO σ o u
  | none => false
noncomputable def ckO (H : Trie AO) (σ : List Nat) (l : List AO) : List Nat → Bool := List.rec (motive := fun _ => List Nat → Bool) (fun q => match q with | [] => true | _ => false) (fun o _ ih q => match q with | p :: q => bif ckO1 σ o (H.get p) then ih q else false | [] => false) l
noncomputable def ndN : List Nat → Bool
  | [] => true
  | p :: l => bif hasN l p then false else ndN l
/-- A call that is known by what stands in memory: what it is given, what stands there, what is known. -/
structure Kp where
  vs : List AV
  os : List AO
  u : Kn
noncomputable def km3 (H : Trie AO) (vs : List AV) (x : Kp) (σ : List Nat) : Option (List Nat × Kn) := bif ndN σ then (bif eqAs σ x.vs vs then (bif ckO H σ x.os σ then some (σ, x.u) else none) else none) else none
noncomputable def km2 (H : Trie AO) (vs : List AV) (l : List Kp) : Option (List Nat × Kn) := List.rec (motive := fun _ => Option (List Nat × Kn)) none (fun x _ ih => Option.rec (motive := fun _ => Option (List Nat × Kn)) ih (fun y => some y) (km3 H vs x (sgm (mC H x.os 0 (mVs x.vs vs [])) x.os 0))) l
noncomputable def km (l : List (Nat × List Kp)) (g : Nat) (vs : List AV) (H : Trie AO) : Option (List Nat × Kn) := List.rec (motive := fun _ => Option (List Nat × Kn)) none (fun x _ ih => Bool.rec (motive := fun _ => Option (List Nat × Kn)) ih (km2 H vs x.2) (Nat.beq x.1 g)) l
theorem km_cons (x : Nat × List Kp) (l : List (Nat × List Kp)) (g : Nat) (vs : List AV) (H : Trie AO) : km (x :: l) g vs H = bif Nat.beq x.1 g then km2 H vs x.2 else km l g vs H := by
  show Bool.rec (motive := fun _ => Option (List Nat × Kn)) (km l g vs H) (km2 H vs x.2) (Nat.beq x.1 g) = _
  cases Nat.beq x.1 g <;> rfl
theorem km2_cons (x : Kp) (l : List Kp) (vs : List AV) (H : Trie AO) : km2 H vs (x :: l) = Option.rec (motive := fun _ => Option (List Nat × Kn)) (km2 H vs l) (fun y => some y) (km3 H vs x (sgm (mC H x.os 0 (mVs x.vs vs [])) x.os 0)) := rfl
noncomputable def mkH : Nat → List AO → Trie AO
  | _, [] => .leaf
  | j, o :: l => Trie.set 40 (mkH (j + 1) l) j o
theorem mkH_get : ∀ {l : List AO} {j i : Nat} {o : AO}, (mkH j l).get i = some o → ∃ q, i = j + q ∧ l[q]? = some o
  | [], j, i, o, h => by cases h
  | u :: l, j, i, o, h => by
    rcases Trie.get_set _ _ _ _ _ _ h with ⟨rfl, rfl⟩ | ⟨_, h2⟩
    · exact ⟨0, rfl, rfl⟩
    · obtain ⟨q, rfl, h3⟩ := mkH_get h2
      exact ⟨q + 1, by omega, by simpa using h3⟩
def KOkM (P : Program) (g : Nat) (x : Kp) : Prop := Callable P g ∧ ∀ (w0 : World) (G0 : GH) (D0 : List Nat) (G : GH) (Ls : List Rs) (w : World) (rs : List Value), Inv w0 G0 D0 G Ls w → HS (mkH 0 x.os) x.os.length Ls → RVs (Ls.map Rs.pl) x.vs rs →
  Calls P g ⟨rs⟩ w fun e' w' => ∃ r L2, e' = .returned r ∧ L2.length = x.u.n ∧ RV ((Ls ++ L2).map Rs.pl) x.u.v r ∧ (∀ j o, (j, o) ∈ x.u.os → ∃ s, L2[j]? = some s ∧ RO ((Ls ++ L2).map Rs.pl) o s) ∧ Inv w0 G0 D0 G (Ls ++ L2) w'
theorem ckO_len {H : Trie AO} {τ : List Nat} : ∀ {l : List AO} {q : List Nat}, ckO H τ l q = true → q.length = l.length
  | [], q, h => by
    cases q with
    | nil => rfl
    | cons p q => cases h
  | o :: l, q, h => by
    cases q with
    | nil => cases h
    | cons p q => simp [ckO_len (bif_and (show (bif ckO1 τ o (H.get p) then ckO H τ l q else false) = true from h)).2]
theorem ckO_at {H : Trie AO} {τ : List Nat} : ∀ {l : List AO} {q : List Nat}, ckO H τ l q = true → ∀ (i : Nat) (o : AO), l[i]? = some o → ∃ p u, q[i]? = some p ∧ H.get p = some u ∧ eqO τ o u = true
  | [], q, h, i, o, ho => by simp at ho
  | o' :: l, q, h, i, o, ho => by
    cases q with
    | nil => cases h
    | cons p q =>
      obtain ⟨h1, h2⟩ := bif_and (show (bif ckO1 τ o' (H.get p) then ckO H τ l q else false) = true from h)
      cases i with
      | zero =>
        simp at ho
        subst ho
        cases hg : H.get p with
        | none => rw [hg] at h1; cases h1
        | some u => rw [hg] at h1; exact ⟨p, u, by simp, hg, h1⟩
      | succ i => simpa using ckO_at h2 i o (by simpa using ho)
theorem pick_some {L : List Rs} : ∀ {q : List Nat}, (∀ p, p ∈ q → p < L.length) → ∃ Ls, pickL q L = some Ls ∧ Ls.length = q.length
  | [], _ => ⟨[], rfl, rfl⟩
  | p :: q, h => by
    obtain ⟨Ls, h1, h2⟩ := pick_some (L := L) fun p' hp' => h p' (List.mem_cons_of_mem _ hp')
    have hp := h p List.mem_cons_self
    exact ⟨L[p] :: Ls, by simp only [pickL, List.getElem?_eq_getElem hp, h1], by simp [h2]⟩
theorem ndN_of : ∀ {l : List Nat}, ndN l = true → l.Nodup
  | [], _ => .nil
  | p :: l, h => by
    simp only [ndN] at h
    cases hb : hasN l p with
    | true => rw [hb] at h; cases h
    | false =>
      rw [hb] at h
      refine List.nodup_cons.2 ⟨fun hm => ?_, ndN_of h⟩
      have : hasN l p = true := hasN_of hm
      rw [this] at hb; cases hb
theorem pick_map {L : List Rs} : ∀ {q : List Nat} {Ls : List Rs}, pickL q L = some Ls → Ls = q.map fun i => L.getD i dead
  | [], Ls, h => by simp only [pickL, Option.some.injEq] at h; subst h; rfl
  | p :: q, Ls, h => by
    simp only [pickL] at h
    split at h
    · rename_i r l h1 h2
      cases h
      rw [List.map_cons, ← pick_map h2]
      simp [List.getD, h1]
    · cases h
theorem range_map (L : List Rs) : L = (List.range L.length).map fun i => L.getD i dead := by
  apply List.ext_getElem
  · simp
  · intro i h1 h2; simp [List.getD, List.getElem?_eq_getElem h1]
/-- What is picked stands before all else, in another order. -/
theorem pick_perm {L Ls : List Rs} {σ : List Nat} (h : pickL σ L = some Ls) (hn : σ.Nodup) : ∃ R, (Ls ++ R).Perm L := by
  have hlt : ∀ p, p ∈ σ → p < L.length := by
    clear hn
    induction σ generalizing Ls with
    | nil => simp
    | cons q σ ih =>
      simp only [pickL] at h
      split at h
      · rename_i r l h1 h2
        intro p hp
        rcases List.mem_cons.1 hp with rfl | hp
        · exact (List.getElem?_eq_some_iff.1 h1).1
        · exact ih h2 p hp
      · cases h
  let ρ := (List.range L.length).filter fun i => !σ.contains i
  refine ⟨ρ.map fun i => L.getD i dead, ?_⟩
  rw [pick_map h, ← List.map_append]
  conv => rhs; rw [range_map L]
  refine List.Perm.map _ ?_
  refine (List.perm_ext_iff_of_nodup ?_ List.nodup_range).2 fun a => ?_
  · refine List.nodup_append.2 ⟨hn, List.nodup_range.filter _, fun a ha b hb e => ?_⟩
    subst e
    simp only [ρ, List.mem_filter, List.contains_eq_mem, Bool.not_eq_true', decide_eq_false_iff_not] at hb
    exact hb.2 ha
  · simp only [ρ, List.mem_append, List.mem_filter, List.contains_eq_mem, Bool.not_eq_true', decide_eq_false_iff_not, List.mem_range]
    constructor
    · rintro (h1 | h1)
      · exact hlt a h1
      · exact h1.1
    · intro h1
      by_cases h2 : a ∈ σ
      · exact .inl h2
      · exact .inr ⟨h1, h2⟩
theorem km3_ok {P : Program} {G : GH} {g : Nat} {x : Kp} (hx : KOkM P g x) {vs : List AV} {H : Trie AO} {σ : List Nat} {y : List Nat × Kn} (h : km3 H vs x σ = some y) : Callable P g ∧ ∀ (w0 : World) (G0 : GH) (D0 : List Nat) (L : List Rs) (sz : Nat) (w : World) (rs : List Value), Inv w0 G0 D0 G L w → HS H sz L → RVs (L.map Rs.pl) vs rs →
    Calls P g ⟨rs⟩ w fun e' w' => ∃ r Ls L2, e' = .returned r ∧ pickL y.1 L = some Ls ∧ L2.length = y.2.n ∧ RV ((Ls ++ L2).map Rs.pl) y.2.v r ∧ (∀ j o, (j, o) ∈ y.2.os → ∃ s, L2[j]? = some s ∧ RO ((Ls ++ L2).map Rs.pl) o s) ∧ Inv w0 G0 D0 G (L ++ L2) w' := by
  refine ⟨hx.1, fun w0 G0 D0 L sz w rs hI hH hrs => ?_⟩
  unfold km3 at h
  cases h1 : ndN σ with
  | false => rw [h1] at h; cases h
  | true =>
    cases h2 : eqAs σ x.vs vs with
    | false => rw [h1, h2] at h; cases h
    | true =>
      cases h3 : ckO H σ x.os σ with
      | false => rw [h1, h2, h3] at h; cases h
      | true =>
        rw [h1, h2, h3] at h
        cases h
        have hlen := ckO_len h3
        have hlt : ∀ p, p ∈ σ → p < L.length := fun p hp => by
          obtain ⟨i, hi⟩ := List.mem_iff_getElem?.1 hp
          have hil : i < x.os.length := by rw [← hlen]; exact (List.getElem?_eq_some_iff.1 hi).1
          obtain ⟨p', u, e1, e2, _⟩ := ckO_at h3 i _ (List.getElem?_eq_getElem hil)
          rw [hi] at e1; cases e1
          obtain ⟨s, hs, _⟩ := hH.obj _ _ e2
          exact (List.getElem?_eq_some_iff.1 hs).1
        obtain ⟨Ls, hp, hpl⟩ := pick_some hlt
        obtain ⟨R, hR⟩ := pick_perm hp (ndN_of h1)
        have hI2 := hI.perm hR
        have hHs : HS (mkH 0 x.os) x.os.length Ls := by
          refine ⟨by rw [hpl, hlen], fun i o hi => ?_⟩
          obtain ⟨q, rfl, hq⟩ := mkH_get hi
          rw [Nat.zero_add]
          obtain ⟨p, u, e1, e2, e3⟩ := ckO_at h3 q o hq
          obtain ⟨s, hs, hs2⟩ := hH.obj _ _ e2
          exact ⟨s, (pick_at hp q p e1).trans hs, eqO_RO hp e3 hs2⟩
        refine (hx.2 w G (feet Ls) G Ls w rs (Inv.pass hI2) hHs (eqA_RVs hp _ _ h2 hrs)).mono ?_
        rintro e' w' ⟨r, L2, rfl, k1, k2, k3, k4⟩
        refine ⟨r, Ls, L2, rfl, hp, k1, k2, k3, (Inv.back hI2 k4).perm ?_⟩
        refine (hR.symm.append_right L2).trans ?_
        rw [List.append_assoc, List.append_assoc]
        exact List.Perm.append_left Ls List.perm_append_comm
def KmOk (P : Program) : List (Nat × List Kp) → Prop
  | [] => True
  | (g, m) :: l => (∀ x, x ∈ m → KOkM P g x) ∧ KmOk P l
theorem km_ok {P : Program} : ∀ {l : List (Nat × List Kp)}, KmOk P l → ∀ G, KOk P G (km l)
  | [], _, G, g, vs, H, u, h => by cases h
  | (g', m) :: l, hl, G, g, vs, H, u, h => by
    rw [km_cons] at h
    cases hb : Nat.beq g' g with
    | false => rw [hb] at h; exact km_ok hl.2 G g vs H u h
    | true =>
      rw [hb] at h
      obtain rfl := Nat.eq_of_beq_eq_true hb
      have key : ∀ {m : List Kp}, (∀ x, x ∈ m → KOkM P g' x) → km2 H vs m = some u → ∃ x σ, KOkM P g' x ∧ km3 H vs x σ = some u := by
        intro m
        induction m with
        | nil => intro _ h; cases h
        | cons x l ih =>
          intro hm h
          rw [km2_cons] at h
          cases hk : km3 H vs x (sgm (mC H x.os 0 (mVs x.vs vs [])) x.os 0) with
          | none => rw [hk] at h; exact ih (fun y hy => hm y (List.mem_cons_of_mem _ hy)) h
          | some y' => rw [hk] at h; cases h; exact ⟨x, _, hm x List.mem_cons_self, hk⟩
      obtain ⟨x, σ, h1, h2⟩ := key hl.1 h
      exact km3_ok h1 h2
noncomputable def kor (a b : KTab) : KTab := fun g vs H => Option.rec (motive := fun _ => Option (List Nat × Kn)) (b g vs H) (fun x => some x) (a g vs H)
theorem kor_ok {P : Program} {G : GH} {a b : KTab} (ha : KOk P G a) (hb : KOk P G b) : KOk P G (kor a b) := fun g vs H x h => by
  unfold kor at h
  cases hx : a g vs H with
  | none => rw [hx] at h; exact hb g vs H x h
  | some y' => rw [hx] at h; cases h; exact ha g vs H _ hx
/-- What came out of a call that was run over what stands in memory. -/
noncomputable def objM (n : Nat) (H : Trie AO) : List Nat → Option (List (Nat × AO))
  | [] => some []
  | i :: l => bif Nat.ble n i then (match H.get i, objM n H l with
    | some o, some r => some ((i - n, o) :: r)
    | _, _ => none) else none
theorem objM_of {n : Nat} {H : Trie AO} : ∀ {is : List Nat} {os : List (Nat × AO)}, objM n H is = some os → ∀ j o, (j, o) ∈ os → H.get (n + j) = some o
  | [], os, h, j, o, hm => by simp only [objM, Option.some.injEq] at h; subst h; simp at hm
  | i :: l, os, h, j, o, hm => by
    simp only [objM] at h
    cases hb : Nat.ble n i with
    | false => rw [hb] at h; cases h
    | true =>
      rw [hb] at h
      simp only [cond_true] at h
      split at h
      · rename_i o' r h1 h2
        cases h
        have hle := Nat.le_of_ble_eq_true hb
        rcases List.mem_cons.1 hm with hm | hm
        · cases hm; rw [show n + (i - n) = i by omega]; exact h1
        · exact objM_of h2 j o hm
      · cases h
noncomputable def outM (n : Nat) (is : List Nat) : R4 → Option Kn
  | some (_, F) => bif F.wr.all (fun i => Nat.ble n i) then (match objM n F.H is with
    | some os => some ⟨F.sz - n, os, F.v⟩
    | none => none) else none
  | none => none
noncomputable def ranM (T : Tab) (P : Program) (OT : OTab) (KT : KTab) (k g : Nat) (vs : List AV) (os : List AO) (is : List Nat) : Option Kn := outM os.length is (go T P OT KT k (.call g vs) 0 0 .leaf (mkH 0 os) os.length)
theorem ranM_ok {T : Tab} {P : Program} {OT : OTab} {KT : KTab} (hT : T.Ok P) (hm : P.follows .mixedOrders = true) (hK : ∀ G, KOk P G KT) {k g : Nat} {vs : List AV} {os : List AO} {is : List Nat} {u : Kn} (hc : Callable P g) (h : ranM T P OT KT k g vs os is = some u) : KOkM P g ⟨vs, os, u⟩ := by
  refine ⟨hc, fun w0 G0 D0 G Ls w rs hI hH hrs => ?_⟩
  unfold ranM outM at h
  split at h
  · rename_i x F h1
    cases hw : F.wr.all (fun i => Nat.ble os.length i) with
    | false => rw [hw] at h; cases h
    | true =>
      rw [hw] at h
      simp only [cond_true] at h
      split at h
      · rename_i os' ho
        cases h
        refine ((go_run (OT := OT) hT hm (hK G) k w0 G0 D0 _ _ _ _ _ _ _ _ h1 Ls w hI hH).2 rs hrs).mono ?_
        rintro e' w' ⟨r, L', rfl, h4, h4', h5, h5', h6⟩
        have hl : L'.length = F.sz := h5.len
        have hls : Ls.length = os.length := hH.len
        have hpre : ∀ j, j < Ls.length → L'[j]? = Ls[j]? := fun j hj => h5' j hj fun hm => by
          have := List.all_eq_true.1 hw j hm
          have := Nat.le_of_ble_eq_true this
          omega
        have e : L' = Ls ++ L'.drop Ls.length := by
          apply List.ext_getElem?
          intro i
          by_cases hi : i < Ls.length
          · rw [hpre i hi, List.getElem?_append_left hi]
          · rw [List.getElem?_append_right (by omega), List.getElem?_drop, show Ls.length + (i - Ls.length) = i by omega]
        refine ⟨r, L'.drop Ls.length, rfl, by simp [hl, hls], by rw [← e]; exact h4, fun j o hm => ?_, by rw [← e]; exact h6⟩
        obtain ⟨s, k1, k2⟩ := h5.obj _ _ (objM_of ho j o hm)
        exact ⟨s, by rw [List.getElem?_drop, hls]; exact k1, by rw [← e]; exact k2⟩
      · cases h
  · cases h
end Go.Proofs.YthaekpmkjfmilaaGreat
