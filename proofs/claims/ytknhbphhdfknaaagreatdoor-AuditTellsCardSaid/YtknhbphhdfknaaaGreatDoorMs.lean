import Derived.Test.YtknhbphhdfknaaaGreatDoorMc
set_option linter.unusedVariables false
set_option linter.unusedSimpArgs false
namespace Go.Proofs.YtknhbphhdfknaaaGreatDoor
open Go.RowKit
noncomputable def hasN : List Nat → Nat → Bool
 | [], _ => false
 | x :: l, i => bif Nat.beq x i then true else hasN l i
theorem hasN_of {is : List Nat} {i : Nat} (h : i ∈ is) : hasN is i = true := by
 induction is with
 | nil => simp at h
 | cons x l ih =>
  simp only [hasN]
  rcases List.mem_cons.1 h with rfl | h
  · simp
  · cases Nat.beq x i with
    | true => rfl
    | false => exact ih h
noncomputable def eqI (a b : Int) : Bool := match a, b with
 | .ofNat x, .ofNat y => Nat.beq x y
 | .negSucc x, .negSucc y => Nat.beq x y
 | _, _ => false
theorem eqI_eq {a b : Int} (h : eqI a b = true) : a = b := by
 unfold eqI at h
 split at h
 · rw [Nat.eq_of_beq_eq_true h]
 · rw [Nat.eq_of_beq_eq_true h]
 · cases h
noncomputable def kN (k : IntKind) : Nat := IntKind.rec 0 1 2 3 4 5 6 7 k
theorem kN_inj {k k' : IntKind} (h : kN k = kN k') : k = k' := by cases k <;> cases k' <;> first | rfl | (exact absurd h (by decide))
noncomputable def eqW : Value → Value → Bool
 | .bool a, .bool b => bif a then b else !b
 | .int k a, .int k' b => bif Nat.beq (kN k) (kN k') then eqI a b else false
 | .string a, .string b => eqL a.data.toList b.data.toList
 | .pointer none, .pointer none => true
 | .slice none n c, .slice none n' c' => Nat.beq n n' && Nat.beq c c'
 | .map none, .map none => true
 | .nilFunc, .nilFunc => true
 | _, _ => false
theorem eqW_eq {v u : Value} (h : eqW v u = true) : v = u := by
 unfold eqW at h
 split at h
 · rename_i a b; cases a <;> cases b <;> simp_all
 · rename_i k a k' b
   cases hb : Nat.beq (kN k) (kN k') with
   | false => rw [hb] at h; cases h
   | true => rw [hb] at h; rw [kN_inj (Nat.eq_of_beq_eq_true hb), eqI_eq h]
 · rw [eqL_str] at h; rw [of_decide_eq_true h]
 · rfl
 · simp only [Bool.and_eq_true] at h
   rw [Nat.eq_of_beq_eq_true h.1, Nat.eq_of_beq_eq_true h.2]
 · rfl
 · rfl
 · cases h
noncomputable def nthN (σ : List Nat) : Nat → Option Nat := List.rec (motive := fun _ => Nat → Option Nat) (fun _ => none) (fun p _ ih i => Nat.rec (motive := fun _ => Option Nat) (some p) (fun j _ => ih j) i) σ
theorem nthN_eq : ∀ (σ : List Nat) (i : Nat), nthN σ i = σ[i]?
 | [], _ => rfl
 | p :: σ, 0 => rfl
 | p :: σ, i + 1 => by
  show nthN σ i = _
  rw [nthN_eq σ i]; simp
noncomputable def eqP1 (i' : Nat) : Option Nat → Bool
 | some p => Nat.beq p i'
 | none => false
noncomputable def eqP (σ : List Nat) (i i' : Nat) : Bool := eqP1 i' (nthN σ i)
noncomputable def eqA (q : Nat → Nat → Bool) (v : AV) : AV → Bool := AV.rec (motive_1 := fun _ => AV → Bool) (motive_2 := fun _ => List AV → Bool)
 (fun x u => match u with | .dat y => eqW x y | _ => false)
 (fun i o u => match u with | .ptr i' o' => bif q i i' then Nat.beq o o' else false | _ => false)
 (fun i o u => match u with | .pel i' o' => bif q i i' then Nat.beq o o' else false | _ => false)
 (fun i lo n sz u => match u with | .sl i' lo' n' sz' => bif q i i' then (Nat.beq lo lo' && (Nat.beq n n' && Nat.beq sz sz')) else false | _ => false)
 (fun i u => match u with | .mp i' => q i i' | _ => false)
 (fun _ ih u => match u with | .agg m => ih m | _ => false)
 (fun _ ih u => match u with | .tup m => ih m | _ => false)
 (fun f _ ih u => match u with | .fn g m => bif Nat.beq f g then ih m else false | _ => false)
 (fun f _ ih u => match u with | .ifc g m => bif Nat.beq f g then ih m else false | _ => false)
 (fun m => match m with | [] => true | _ => false)
 (fun _ _ ih ihs m => match m with | u :: m => bif ih u then ihs m else false | [] => false) v
noncomputable def eqAs (q : Nat → Nat → Bool) (l : List AV) : List AV → Bool := List.rec (motive := fun _ => List AV → Bool) (fun m => match m with | [] => true | _ => false) (fun v _ ihs m => match m with | u :: m => bif eqA q v u then ihs m else false | [] => false) l
theorem eqA_agg (q : Nat → Nat → Bool) (l m : List AV) : eqA q (.agg l) (.agg m) = eqAs q l m := by
 induction l generalizing m with
 | nil => rfl
 | cons v l ih =>
  cases m with
  | nil => rfl
  | cons u m =>
   show (bif eqA q v u then eqA q (.agg l) (.agg m) else false) = (bif eqA q v u then eqAs q l m else false)
   rw [ih]
theorem eqA_tup (q : Nat → Nat → Bool) (l m : List AV) : eqA q (.tup l) (.tup m) = eqAs q l m := by
 induction l generalizing m with
 | nil => rfl
 | cons v l ih =>
  cases m with
  | nil => rfl
  | cons u m =>
   show (bif eqA q v u then eqA q (.tup l) (.tup m) else false) = (bif eqA q v u then eqAs q l m else false)
   rw [ih]
theorem eqA_fn0 (q : Nat → Nat → Bool) (f : Nat) (l m : List AV) : (eqA q (.fn f l) (.fn f m)) = eqAs q l m := by
 have hf : Nat.beq f f = true := by simp
 show (bif Nat.beq f f then _ else false) = _
 rw [hf]
 induction l generalizing m with
 | nil => rfl
 | cons v l ih =>
  cases m with
  | nil => rfl
  | cons u m =>
   have := ih m
   simp only [cond_true] at this ⊢
   show (bif eqA q v u then _ else false) = (bif eqA q v u then eqAs q l m else false)
   rw [← this]
theorem eqA_ifc0 (q : Nat → Nat → Bool) (f : Nat) (l m : List AV) : (eqA q (.ifc f l) (.ifc f m)) = eqAs q l m := by
 have hf : Nat.beq f f = true := by simp
 show (bif Nat.beq f f then _ else false) = _
 rw [hf]
 induction l generalizing m with
 | nil => rfl
 | cons v l ih =>
  cases m with
  | nil => rfl
  | cons u m =>
   have := ih m
   simp only [cond_true] at this ⊢
   show (bif eqA q v u then _ else false) = (bif eqA q v u then eqAs q l m else false)
   rw [← this]
section
variable {L Ls : List Rs} {σ : List Nat} {q : Nat → Nat → Bool}
theorem pick_at : ∀ {σ : List Nat} {Ls : List Rs}, pickL σ L = some Ls → ∀ (i p : Nat), σ[i]? = some p → Ls[i]? = L[p]?
 | [], Ls, h, i, p, hi => by simp at hi
 | q :: σ, Ls, h, i, p, hi => by
  simp only [pickL] at h
  split at h
  · rename_i r l h1 h2
    cases h
    cases i with
    | zero => simp at hi; subst hi; simp [h1]
    | succ i => simpa using pick_at h2 i p (by simpa using hi)
  · cases h
theorem eqP_at {i i' : Nat} (h : pickL σ L = some Ls) (he : eqP σ i i' = true) : (Ls.map Rs.pl)[i]? = (L.map Rs.pl)[i']? := by
 unfold eqP at he
 cases hn : nthN σ i with
 | none => rw [hn] at he; cases he
 | some p =>
  rw [hn] at he
  obtain rfl := Nat.eq_of_beq_eq_true he
  rw [nthN_eq] at hn
  rw [List.getElem?_map, List.getElem?_map, pick_at h i p hn]
theorem bif_and {a b : Bool} (h : (bif a then b else false) = true) : a = true ∧ b = true := by cases a <;> simp_all
mutual
theorem eqA_RV (h : ∀ i i', q i i' = true → (Ls.map Rs.pl)[i]? = (L.map Rs.pl)[i']?) : ∀ (v u : AV) {r : Value}, eqA q v u = true → RV (L.map Rs.pl) u r → RV (Ls.map Rs.pl) v r
 | .dat x, u, r, he, k => by
  cases u <;> first | (cases he; done) | skip
  rename_i y
  have he : eqW x y = true := he
  rw [eqW_eq he]
  simp only [RV] at k ⊢; exact k
 | .ptr i o, u, r, he, k => by
  cases u <;> first | (cases he; done) | skip
  rename_i i' o'
  obtain ⟨h1, h2⟩ := bif_and (show (bif q i i' then Nat.beq o o' else false) = true from he)
  obtain rfl := Nat.eq_of_beq_eq_true h2
  simp only [RV] at k ⊢; rw [h _ _ h1]; exact k
 | .pel i o, u, r, he, k => by
  cases u <;> first | (cases he; done) | skip
  rename_i i' o'
  obtain ⟨h1, h2⟩ := bif_and (show (bif q i i' then Nat.beq o o' else false) = true from he)
  obtain rfl := Nat.eq_of_beq_eq_true h2
  simp only [RV] at k ⊢; rw [h _ _ h1]; exact k
 | .sl i lo n sz, u, r, he, k => by
  cases u <;> first | (cases he; done) | skip
  rename_i i' lo' n' sz'
  obtain ⟨h1, h2⟩ := bif_and (show (bif q i i' then (Nat.beq lo lo' && (Nat.beq n n' && Nat.beq sz sz')) else false) = true from he)
  simp only [Bool.and_eq_true] at h2
  obtain ⟨h2, h3, h4⟩ := h2
  obtain rfl := Nat.eq_of_beq_eq_true h2
  obtain rfl := Nat.eq_of_beq_eq_true h3
  obtain rfl := Nat.eq_of_beq_eq_true h4
  simp only [RV] at k ⊢; rw [h _ _ h1]; exact k
 | .mp i, u, r, he, k => by
  cases u <;> first | (cases he; done) | skip
  rename_i i'
  have h1 : q i i' = true := he
  simp only [RV] at k ⊢; rw [h _ _ h1]; exact k
 | .agg l, u, r, he, k => by
  cases u <;> first | (cases he; done) | skip
  rename_i m
  rw [eqA_agg] at he
  simp only [RV] at k ⊢
  obtain ⟨rs, k1, k2⟩ := k; exact ⟨rs, k1, eqA_RVs h l m he k2⟩
 | .tup l, u, r, he, k => by
  cases u <;> first | (cases he; done) | skip
  rename_i m
  rw [eqA_tup] at he
  simp only [RV] at k ⊢
  obtain ⟨rs, k1, k2⟩ := k; exact ⟨rs, k1, eqA_RVs h l m he k2⟩
 | .fn f l, u, r, he, k => by
  cases u <;> first | (cases he; done) | skip
  rename_i g m
  have hf : Nat.beq f g = true := by
   cases hb : Nat.beq f g with
   | true => rfl
   | false =>
    have he : (bif Nat.beq f g then _ else false) = true := he
    rw [hb] at he; cases he
  obtain rfl := Nat.eq_of_beq_eq_true hf
  rw [eqA_fn0] at he
  simp only [RV] at k ⊢
  obtain ⟨rs, k1, k2⟩ := k; exact ⟨rs, k1, eqA_RVs h l m he k2⟩
 | .ifc f l, u, r, he, k => by
  cases u <;> first | (cases he; done) | skip
  rename_i g m
  have hf : Nat.beq f g = true := by
   cases hb : Nat.beq f g with
   | true => rfl
   | false =>
    have he : (bif Nat.beq f g then _ else false) = true := he
    rw [hb] at he; cases he
  obtain rfl := Nat.eq_of_beq_eq_true hf
  rw [eqA_ifc0] at he
  simp only [RV] at k ⊢
  obtain ⟨rs, k1, k2⟩ := k; exact ⟨rs, k1, eqA_RVs h l m he k2⟩
theorem eqA_RVs (h : ∀ i i', q i i' = true → (Ls.map Rs.pl)[i]? = (L.map Rs.pl)[i']?) : ∀ (l m : List AV) {rs : List Value}, eqAs q l m = true → RVs (L.map Rs.pl) m rs → RVs (Ls.map Rs.pl) l rs
 | [], m, rs, he, k => by
  cases m with
  | nil => simp only [RVs] at k ⊢; exact k
  | cons u m => cases he
 | v :: l, m, rs, he, k => by
  cases m with
  | nil => cases he
  | cons u m =>
   obtain ⟨h1, h2⟩ := bif_and (show (bif eqA q v u then eqAs q l m else false) = true from he)
   simp only [RVs] at k ⊢
   obtain ⟨r, rs', k1, k2, k3⟩ := k
   exact ⟨r, rs', k1, eqA_RV h v u h1 k2, eqA_RVs h l m h2 k3⟩
end
noncomputable def eqKv (l : List (ByteArray × Int)) : List (ByteArray × Int) → Bool := List.rec (motive := fun _ => List (ByteArray × Int) → Bool) (fun m => match m with | [] => true | _ => false) (fun x _ ih m => match m with | y :: m => bif eqL x.1.data.toList y.1.data.toList then (bif eqI x.2 y.2 then ih m else false) else false | [] => false) l
theorem eqKv_eq : ∀ {l m : List (ByteArray × Int)}, eqKv l m = true → l = m
 | [], m, h => by
  cases m with
  | nil => rfl
  | cons u m => cases h
 | x :: l, m, h => by
  cases m with
  | nil => cases h
  | cons y m =>
   obtain ⟨h1, h2⟩ := bif_and (show (bif eqL x.1.data.toList y.1.data.toList then (bif eqI x.2 y.2 then eqKv l m else false) else false) = true from h)
   obtain ⟨h2, h3⟩ := bif_and h2
   rw [eqL_str] at h1
   rw [eqKv_eq h3, Prod.ext (of_decide_eq_true h1) (eqI_eq h2)]
noncomputable def eqO (q : Nat → Nat → Bool) : AO → AO → Bool
 | .blk T l, .blk T' m => bif Nat.beq T T' then eqAs q l m else false
 | .row te sz n l, .row te' sz' n' m => bif (Nat.beq te te' && (Nat.beq sz sz' && Nat.beq n n')) then eqAs q l m else false
 | .mp kvs, .mp kvs' => eqKv kvs kvs'
 | _, _ => false
theorem eqO_RO (h : ∀ i i', q i i' = true → (Ls.map Rs.pl)[i]? = (L.map Rs.pl)[i']?) {o u : AO} {s : Rs} (he : eqO q o u = true) (k : RO (L.map Rs.pl) u s) : RO (Ls.map Rs.pl) o s := by
 unfold eqO at he
 split at he
 · obtain ⟨h1, h2⟩ := bif_and he
   obtain rfl := Nat.eq_of_beq_eq_true h1
   cases s <;> simp only [RO] at k ⊢
   exact ⟨k.1, eqA_RVs h _ _ h2 k.2⟩
 · obtain ⟨h1, h2⟩ := bif_and he
   simp only [Bool.and_eq_true] at h1
   obtain ⟨h1, h3, h4⟩ := h1
   obtain rfl := Nat.eq_of_beq_eq_true h1
   obtain rfl := Nat.eq_of_beq_eq_true h3
   obtain rfl := Nat.eq_of_beq_eq_true h4
   cases s <;> simp only [RO] at k ⊢
   exact ⟨k.1, k.2.1, k.2.2.1, k.2.2.2.1, eqA_RVs h _ _ h2 k.2.2.2.2⟩
 · rw [eqKv_eq he]
   cases s <;> simp only [RO] at k ⊢
   exact k
 · cases he
end
noncomputable def lkN (S : List (Nat × Nat)) : Nat → Option Nat := List.rec (motive := fun _ => Nat → Option Nat) (fun _ => none) (fun x _ ih i => Bool.rec (motive := fun _ => Option Nat) (ih i) (some x.2) (Nat.beq x.1 i)) S
noncomputable def adP1 (i i' : Nat) (S : List (Nat × Nat)) : Option Nat → List (Nat × Nat)
 | some _ => S
 | none => (i, i') :: S
noncomputable def adP (i i' : Nat) (S : List (Nat × Nat)) : List (Nat × Nat) := adP1 i i' S (lkN S i)
noncomputable def mV (v : AV) : AV → List (Nat × Nat) → List (Nat × Nat) := AV.rec (motive_1 := fun _ => AV → List (Nat × Nat) → List (Nat × Nat)) (motive_2 := fun _ => List AV → List (Nat × Nat) → List (Nat × Nat))
 (fun _ _ S => S)
 (fun i _ u S => match u with | .ptr i' _ => adP i i' S | _ => S)
 (fun i _ u S => match u with | .pel i' _ => adP i i' S | _ => S)
 (fun i _ _ _ u S => match u with | .sl i' _ _ _ => adP i i' S | _ => S)
 (fun i u S => match u with | .mp i' => adP i i' S | _ => S)
 (fun _ ih u S => match u with | .agg m => ih m S | _ => S)
 (fun _ ih u S => match u with | .tup m => ih m S | _ => S)
 (fun _ _ ih u S => match u with | .fn _ m => ih m S | _ => S)
 (fun _ _ ih u S => match u with | .ifc _ m => ih m S | _ => S)
 (fun _ S => S)
 (fun _ _ ih ihs m S => match m with | u :: m => ihs m (ih u S) | [] => S) v
noncomputable def mVs (l : List AV) : List AV → List (Nat × Nat) → List (Nat × Nat) := List.rec (motive := fun _ => List AV → List (Nat × Nat) → List (Nat × Nat)) (fun _ S => S) (fun v _ ihs m S => match m with | u :: m => ihs m (mV v u S) | [] => S) l
noncomputable def mO (S : List (Nat × Nat)) : AO → Option AO → List (Nat × Nat)
 | .blk _ l, some (.blk _ m) => mVs l m S
 | .row _ _ _ l, some (.row _ _ _ m) => mVs l m S
 | _, _ => S
noncomputable def mC1 (H : Trie AO) (o : AO) (S : List (Nat × Nat)) : Option Nat → List (Nat × Nat)
 | some p => mO S o (H.get p)
 | none => S
noncomputable def mC (H : Trie AO) (l : List AO) : Nat → List (Nat × Nat) → List (Nat × Nat) := List.rec (motive := fun _ => Nat → List (Nat × Nat) → List (Nat × Nat)) (fun _ S => S) (fun o _ ih j S => ih (j + 1) (mC1 H o S (lkN S j))) l
noncomputable def sgm (S : List (Nat × Nat)) (l : List AO) : Nat → List Nat := List.rec (motive := fun _ => Nat → List Nat) (fun _ => []) (fun _ _ ih j => Option.rec (motive := fun _ => List Nat) [] (fun p => p :: ih (j + 1)) (lkN S j)) l
noncomputable def ckO1 (σ : List Nat) (o : AO) : Option AO → Bool
 | some u => eqO (eqP σ) o u
 | none => false
noncomputable def ckO (H : Trie AO) (σ : List Nat) (l : List AO) : List Nat → Bool := List.rec (motive := fun _ => List Nat → Bool) (fun q => match q with | [] => true | _ => false) (fun o _ ih q => match q with | p :: q => bif ckO1 σ o (H.get p) then ih q else false | [] => false) l
noncomputable def ndN : List Nat → Bool
 | [] => true
 | p :: l => bif hasN l p then false else ndN l
theorem ckO_len {H : Trie AO} {τ : List Nat} : ∀ {l : List AO} {q : List Nat}, ckO H τ l q = true → q.length = l.length
 | [], q, h => by
  cases q with
  | nil => rfl
  | cons p q => cases h
 | o :: l, q, h => by
  cases q with
  | nil => cases h
  | cons p q => simp [ckO_len (bif_and (show (bif ckO1 τ o (H.get p) then ckO H τ l q else false) = true from h)).2]
theorem ckO_at {H : Trie AO} {τ : List Nat} : ∀ {l : List AO} {q : List Nat}, ckO H τ l q = true → ∀ (i : Nat) (o : AO), l[i]? = some o → ∃ p u, q[i]? = some p ∧ H.get p = some u ∧ eqO (eqP τ) o u = true
 | [], q, h, i, o, ho => by simp at ho
 | o' :: l, q, h, i, o, ho => by
  cases q with
  | nil => cases h
  | cons p q =>
   obtain ⟨h1, h2⟩ := bif_and (show (bif ckO1 τ o' (H.get p) then ckO H τ l q else false) = true from h)
   cases i with
   | zero =>
    simp at ho
    subst ho
    cases hg : H.get p with
    | none => rw [hg] at h1; cases h1
    | some u => rw [hg] at h1; exact ⟨p, u, by simp, hg, h1⟩
   | succ i => simpa using ckO_at h2 i o (by simpa using ho)
theorem pick_some {L : List Rs} : ∀ {q : List Nat}, (∀ p, p ∈ q → p < L.length) → ∃ Ls, pickL q L = some Ls ∧ Ls.length = q.length
 | [], _ => ⟨[], rfl, rfl⟩
 | p :: q, h => by
  obtain ⟨Ls, h1, h2⟩ := pick_some (L := L) fun p' hp' => h p' (List.mem_cons_of_mem _ hp')
  have hp := h p List.mem_cons_self
  exact ⟨L[p] :: Ls, by simp only [pickL, List.getElem?_eq_getElem hp, h1], by simp [h2]⟩
theorem ndN_of : ∀ {l : List Nat}, ndN l = true → l.Nodup
 | [], _ => .nil
 | p :: l, h => by
  simp only [ndN] at h
  cases hb : hasN l p with
  | true => rw [hb] at h; cases h
  | false =>
   rw [hb] at h
   refine List.nodup_cons.2 ⟨fun hm => ?_, ndN_of h⟩
   have : hasN l p = true := hasN_of hm
   rw [this] at hb; cases hb
theorem pick_map {L : List Rs} : ∀ {q : List Nat} {Ls : List Rs}, pickL q L = some Ls → Ls = q.map fun i => L.getD i dead
 | [], Ls, h => by simp only [pickL, Option.some.injEq] at h; subst h; rfl
 | p :: q, Ls, h => by
  simp only [pickL] at h
  split at h
  · rename_i r l h1 h2
    cases h
    rw [List.map_cons, ← pick_map h2]
    simp [List.getD, h1]
  · cases h
theorem range_map (L : List Rs) : L = (List.range L.length).map fun i => L.getD i dead := by
 apply List.ext_getElem
 · simp
 · intro i h1 h2; simp [List.getD, List.getElem?_eq_getElem h1]
theorem pick_perm {L Ls : List Rs} {σ : List Nat} (h : pickL σ L = some Ls) (hn : σ.Nodup) : ∃ R, (Ls ++ R).Perm L := by
 have hlt : ∀ p, p ∈ σ → p < L.length := by
  clear hn
  induction σ generalizing Ls with
  | nil => simp
  | cons q σ ih =>
   simp only [pickL] at h
   split at h
   · rename_i r l h1 h2
     intro p hp
     rcases List.mem_cons.1 hp with rfl | hp
     · exact (List.getElem?_eq_some_iff.1 h1).1
     · exact ih h2 p hp
   · cases h
 let ρ := (List.range L.length).filter fun i => !σ.contains i
 refine ⟨ρ.map fun i => L.getD i dead, ?_⟩
 rw [pick_map h, ← List.map_append]
 conv => rhs; rw [range_map L]
 refine List.Perm.map _ ?_
 refine (List.perm_ext_iff_of_nodup ?_ List.nodup_range).2 fun a => ?_
 · refine List.nodup_append.2 ⟨hn, List.nodup_range.filter _, fun a ha b hb e => ?_⟩
   subst e
   simp only [ρ, List.mem_filter, List.contains_eq_mem, Bool.not_eq_true', decide_eq_false_iff_not] at hb
   exact hb.2 ha
 · simp only [ρ, List.mem_append, List.mem_filter, List.contains_eq_mem, Bool.not_eq_true', decide_eq_false_iff_not, List.mem_range]
   constructor
   · rintro (h1 | h1)
     · exact hlt a h1
     · exact h1.1
   · intro h1
     by_cases h2 : a ∈ σ
     · exact .inl h2
     · exact .inr ⟨h1, h2⟩
end Go.Proofs.YtknhbphhdfknaaaGreatDoor
