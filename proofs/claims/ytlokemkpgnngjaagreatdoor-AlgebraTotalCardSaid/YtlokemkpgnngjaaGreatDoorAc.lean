/- AlgebraTotal's plain law, whole. No program in sight. -/
import Derived.Test.YtlokemkpgnngjaaGreatDoorAb
set_option linter.unusedVariables false
set_option linter.unusedSimpArgs false
set_option maxRecDepth 100000
namespace Go.Proofs.YtlokemkpgnngjaaGreatDoor
def two (s : ByteArray) (a b : TNode) : TNode := .mk 10 0 s [a, b] []
def nt1 (a : TNode) : TNode := .mk 8 0 ⟨#[]⟩ [a] []
def ng1 (a : TNode) : TNode := .mk 7 0 ⟨#[]⟩ [a] []
def cs1 (a b : TNode) : TNode := .mk 11 0 ⟨#[]⟩ [a, b, nt1 a] []
def ops1 : List ByteArray := [⟨#[97,110,100]⟩, ⟨#[111,114]⟩, ⟨#[61]⟩, ⟨#[60,62]⟩, ⟨#[60]⟩, ⟨#[60,61]⟩, ⟨#[62]⟩, ⟨#[62,61]⟩]
def ops2 : List ByteArray := [⟨#[43]⟩, ⟨#[45]⟩, ⟨#[42]⟩, ⟨#[47]⟩, ⟨#[37]⟩, ⟨#[124,124]⟩]
theorem own_two (s : ByteArray) (a b : TNode) : own1 (two s a b) = (algebra_always 0 s).getD false := by
  obtain ⟨v, hv, _⟩ := always_tot 0 s
  show (((algebra_always 0 s).bind fun e => some e).getD false) = _
  rw [hv]; rfl
theorem always1 : ∀ s, s ∈ ops1 → (algebra_always 0 s).getD false = true := by decide +kernel
theorem always2 : ∀ s, s ∈ ops2 → (algebra_always 0 s).getD false = false := by decide +kernel
theorem wk_two (s : ByteArray) (a b : TNode) : wk (two s a b) = ((algebra_always 0 s).getD false && (wk a && wk b)) := by
  rw [wk_eq, own_two]
  show (_ && (wk a && (wk b && true))) = _
  rw [Bool.and_true]
theorem wk_nt (a : TNode) : wk (nt1 a) = wk a := by
  rw [wk_eq]
  show (true && (wk a && true)) = _
  rw [Bool.and_true, Bool.true_and]
theorem wk_ng (a : TNode) : wk (ng1 a) = false := by rw [wk_eq]; rfl
theorem wk_cs (a b : TNode) : wk (cs1 a b) = (wk a && wk b) := by
  rw [wk_eq]
  show (true && (wk a && (wk b && (wk (nt1 a) && true)))) = _
  rw [wk_nt]; cases wk a <;> cases wk b <;> rfl
theorem us_cs (a b : TNode) : us (cs1 a b) = us a ++ (us b ++ us a) := by
  show [] ++ (us a ++ (us b ++ (([] ++ (us a ++ [])) ++ []))) = _
  simp
theorem b3_loop (k : Nat) {a b : TNode} {g : Bool} (h : ∀ s, s ∈ ops1 → algebra_Total k (two s a b) = some g) : forL (law10_AlgebraTotal.b3 k a b g) 0 ops1 () = some (.go ()) := by
  obtain ⟨r, hr, rfl⟩ : Tot (forL (law10_AlgebraTotal.b3 k a b g) 0 ops1 ()) fun r => r = .go () := by
    refine Tot.forL (fun _ _ => True) trivial (fun j s _ hs _ => ?_) fun _ _ => rfl
    unfold law10_AlgebraTotal.b3
    rw [Nat.zero_add]
    refine Tot.one (show getO ops1 (j : Int) = some s by rw [getO_nat]; exact hs) (Tot.one (h s (List.mem_of_getElem? hs)) ?_)
    cases g <;> exact Tot.ret trivial
  exact hr
theorem b2_loop (k : Nat) {a b : TNode} (h : ∀ s, s ∈ ops2 → algebra_Total k (two s a b) = some false) : forL (law10_AlgebraTotal.b2 k a b) 0 ops2 () = some (.go ()) := by
  obtain ⟨r, hr, rfl⟩ : Tot (forL (law10_AlgebraTotal.b2 k a b) 0 ops2 ()) fun r => r = .go () := by
    refine Tot.forL (fun _ _ => True) trivial (fun j s _ hs _ => ?_) fun _ _ => rfl
    unfold law10_AlgebraTotal.b2
    rw [Nat.zero_add]
    exact Tot.one (show getO ops2 (j : Int) = some s by rw [getO_nat]; exact hs) (Tot.one (h s (List.mem_of_getElem? hs)) (Tot.ret trivial))
  exact hr
theorem b1_loop (k : Nat) {d e f : List Int} (h : ∀ x, x ∈ f → x ∈ d ∨ x ∈ e) : forL (law10_AlgebraTotal.b1 k d e) 0 f () = some (.go ()) := by
  obtain ⟨r, hr, rfl⟩ : Tot (forL (law10_AlgebraTotal.b1 k d e) 0 f ()) fun r => r = .go () := by
    refine Tot.forL (fun _ _ => True) trivial (fun j x _ hx _ => ?_) fun _ _ => rfl
    unfold law10_AlgebraTotal.b1
    rw [in_eq, in_eq]
    by_cases hd : x ∈ d
    · rw [decide_eq_true hd]; exact Tot.ret trivial
    · have he : x ∈ e := (h x (List.mem_of_getElem? hx)).resolve_left hd
      rw [decide_eq_false hd, decide_eq_true he]; exact Tot.ret trivial
  exact hr
theorem b0_loop (k : Nat) {f xs : List Int} (hl : xs.length ≤ 1000) (h : ∀ x, x ∈ xs → x ∈ f) : forL (law10_AlgebraTotal.b0 k f) 0 xs (xs, (0 : Int)) = some (.go (xs, (xs.length : Int))) := by
  obtain ⟨r, hr, rfl⟩ : Tot (forL (law10_AlgebraTotal.b0 k f) 0 xs (xs, (0 : Int))) fun r => r = .go (xs, (xs.length : Int)) := by
    refine Tot.forL (fun j s => s = (xs, (j : Int))) rfl (fun j x s hx hs => ?_) (fun s hs => by rw [hs])
    subst hs
    have hj := (List.getElem?_eq_some_iff.1 hx).1
    unfold law10_AlgebraTotal.b0
    rw [Nat.zero_add]
    refine Tot.one (show getO xs (j : Int) = some x by rw [getO_nat]; exact hx) ?_
    rw [in_eq, decide_eq_true (h x (List.mem_of_getElem? hx))]
    refine Tot.ret ?_
    show (xs, w64 ((j : Int) + 1)) = (xs, ((j + 1 : Nat) : Int))
    rw [w64_id (by omega)]; rfl
  exact hr
theorem AlgebraTotal_law (a b : TNode) : ∃ k, law10_AlgebraTotal k a b = some true := by
  refine ⟨1063, ?_⟩
  obtain ⟨y, hy⟩ := (count_ends 61 0 (by omega) (by omega)).2 [a]
  obtain ⟨z, hz⟩ := (count_ends 61 0 (by omega) (by omega)).2 [b]
  have hal : law10_alive kAlive = some true := rfl
  unfold law10_AlgebraTotal
  rw [hy, hz, hal]
  by_cases h1 : (100 : Int) < y
  · simp only [Option.bind_some, decide_eq_true h1, cond_true]
  by_cases h2 : (100 : Int) < z
  · simp only [Option.bind_some, decide_eq_false h1, decide_eq_true h2, cond_true, cond_false]
  simp only [Option.bind_some, decide_eq_false h1, decide_eq_false h2, cond_false]
  have ha := nsz_le _ _ _ _ hy (by omega)
  have hb := nsz_le _ _ _ _ hz (by omega)
  simp only [nszL, Nat.add_zero] at ha hb
  have hta := total_eq 1063 (n := a) (by omega)
  have htb := total_eq 1063 (n := b) (by omega)
  have hua := uses_eq 1063 (n := a) (by omega) (by omega)
  have hub := uses_eq 1063 (n := b) (by omega) (by omega)
  have htn := total_eq 1063 (n := nt1 a) (by simp only [nt1, nsz, nszL]; omega)
  have htg := total_eq 1063 (n := ng1 a) (by simp only [ng1, nsz, nszL]; omega)
  have htc := total_eq 1063 (n := cs1 a b) (by simp only [cs1, nt1, nsz, nszL]; omega)
  have huc := uses_eq 1063 (n := cs1 a b) (by simp only [cs1, nt1, nsz, nszL]; omega) (by omega)
  rw [wk_nt] at htn
  rw [wk_ng] at htg
  rw [wk_cs] at htc
  have hg : ((algebra_Total 1063 a).bind fun v => (bif v then ((algebra_Total 1063 b).bind fun x => some x) else some false)) = some (wk a && wk b) := by
    rw [hta, htb]; cases wk a <;> rfl
  have e3 := b3_loop 1063 (a := a) (b := b) (g := wk a && wk b) fun s hs => by
    rw [total_eq 1063 (n := two s a b) (by simp only [two, nsz, nszL]; omega), wk_two, always1 s hs]; rfl
  have e2 := b2_loop 1063 (a := a) (b := b) fun s hs => by
    rw [total_eq 1063 (n := two s a b) (by simp only [two, nsz, nszL]; omega), wk_two, always2 s hs]; rfl
  rw [hg, Option.bind_some]
  unfold ops1 at e3
  unfold ops2 at e2
  rw [e3, Option.bind_some, Lr.k, e2, Option.bind_some, Lr.k]
  rw [show (TNode.mk (8 : Int) (0 : Int) (⟨#[]⟩ : ByteArray) [a] []) = nt1 a from rfl, show (TNode.mk (7 : Int) (0 : Int) (⟨#[]⟩ : ByteArray) [a] []) = ng1 a from rfl, show (TNode.mk (11 : Int) (0 : Int) (⟨#[]⟩ : ByteArray) [a, b, nt1 a] []) = cs1 a b from rfl]
  rw [htn, hta, htg, htc, hua, hub, huc]
  have hm : ∀ x, x ∈ uz (cs1 a b) ↔ x ∈ uz a ∨ x ∈ uz b := fun x => by
    rw [mem_uz, mem_uz, mem_uz, us_cs]
    simp only [List.mem_append]
    exact ⟨fun h => by rcases h with h | h | h <;> simp [h], fun h => by rcases h with h | h <;> simp [h]⟩
  have la : (uz a).length ≤ 100 := Nat.le_trans (len_sub _ (us a) (uz_inc _) fun x hx => mem_uz.1 hx) (by have := us_len a; omega)
  have lb : (uz b).length ≤ 100 := Nat.le_trans (len_sub _ (us b) (uz_inc _) fun x hx => mem_uz.1 hx) (by have := us_len b; omega)
  have e1 := b1_loop 1063 (d := uz a) (e := uz b) (f := uz (cs1 a b)) fun x hx => (hm x).1 hx
  have e0 := b0_loop 1063 (f := uz (cs1 a b)) (xs := ([] ++ uz a) ++ uz b) (by simp; omega) fun x hx => (hm x).2 (by simpa using hx)
  have hlen := len_sub (uz (cs1 a b)) (([] ++ uz a) ++ uz b) (uz_inc _) fun x hx => by simpa using (hm x).1 hx
  rw [show (Option.bind (some (wk a)) fun p => (Option.bind (some (wk a)) fun s => (bif !(p == s) then some true else (Option.bind (some false) fun t => (bif t then some true else (Option.bind (some (wk a && wk b)) fun u => some (!(u == (wk a && wk b))))))))) = some false by cases wk a <;> cases wk b <;> rfl]
  simp only [Option.bind_some, cond_false]
  rw [e1, Option.bind_some, Lr.k, show lim (([] : List Int).length + (uz a).length) = some () from by unfold lim; rw [if_pos (by simp; omega)], Option.bind_some, show lim ((([] : List Int) ++ uz a).length + (uz b).length) = some () from by unfold lim; rw [if_pos (by simp; omega)], Option.bind_some, e0, Option.bind_some, Lr.k]
  dsimp only
  have hd : (((uz (cs1 a b)).length : Nat) : Int) ≤ (((([] : List Int) ++ uz a ++ uz b).length : Nat) : Int) := by omega
  rw [decide_eq_true hd]
  rfl
end Go.Proofs.YtlokemkpgnngjaaGreatDoor
