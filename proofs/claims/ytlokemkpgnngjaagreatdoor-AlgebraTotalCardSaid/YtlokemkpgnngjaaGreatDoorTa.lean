/- The words of the plain laws: what is answered, and what holds of it. No program in sight. -/
import Derived.Test.YtlokemkpgnngjaaGreatDoorCxF
set_option linter.unusedVariables false
set_option linter.unusedSimpArgs false
namespace Go.Proofs.YtlokemkpgnngjaaGreatDoor
def Tot {α : Type} (x : Option α) (P : α → Prop) : Prop := ∃ a, x = some a ∧ P a
section
variable {α β R S : Type} {x y : Option α} {f : α → Option β} {P P' : α → Prop} {Q : β → Prop} {b : Bool} {a : α} {p : Prop} [Decidable p]
theorem Tot.ret (h : P a) : Tot (some a) P := ⟨a, rfl, h⟩
theorem Tot.of (h : x = some a) (k : P a) : Tot x P := ⟨a, h, k⟩
theorem Tot.bind (h : Tot x fun a => Tot (f a) Q) : Tot (x.bind f) Q := by
  obtain ⟨a, rfl, h⟩ := h; exact h
theorem Tot.mono (h : Tot x P) (k : ∀ a, P a → P' a) : Tot x P' := by
  obtain ⟨a, h1, h2⟩ := h; exact ⟨a, h1, k a h2⟩
theorem Tot.to (h : Tot x P) (k : ∀ a, P a → Tot (f a) Q) : Tot (x.bind f) Q := Tot.bind (h.mono k)
theorem Tot.any {f : Bool → Option β} {x : Option Bool} (h : Tot x fun _ => True) (k : ∀ b, Tot (f b) Q) : Tot (x.bind f) Q := Tot.to h fun b _ => k b
theorem Tot.one {x : Option α} (h : x = some a) (k : Tot (f a) Q) : Tot (x.bind f) Q := by rw [h]; exact k
theorem Tot.cond (h1 : b = true → Tot x P) (h2 : b = false → Tot y P) : Tot (bif b then x else y) P := by
  cases b
  · exact h2 rfl
  · exact h1 rfl
theorem Tot.dec (h1 : p → Tot x P) (h2 : ¬ p → Tot y P) : Tot (bif decide p then x else y) P := by
  by_cases h : p
  · rw [decide_eq_true h]; exact h1 h
  · rw [decide_eq_false h]; exact h2 h
theorem Tot.ndec (h1 : ¬ p → Tot x P) (h2 : p → Tot y P) : Tot (bif !decide p then x else y) P := by
  by_cases h : p
  · rw [decide_eq_true h]; exact h2 h
  · rw [decide_eq_false h]; exact h1 h
theorem Tot.not (h1 : b = false → Tot x P) (h2 : b = true → Tot y P) : Tot (bif !b then x else y) P := by
  cases b
  · exact h1 rfl
  · exact h2 rfl
theorem Tot.getO {xs : List α} {i : Int} (h0 : 0 ≤ i) (h1 : i < xs.length) (k : ∀ a, xs[i.toNat]? = some a → P a) : Tot (getO xs i) P := by
  have h : i.toNat < xs.length := by omega
  refine ⟨xs[i.toNat], ?_, k _ (List.getElem?_eq_getElem h)⟩
  unfold Go.Proofs.YtlokemkpgnngjaaGreatDoor.getO
  rw [if_pos h0, List.getElem?_eq_getElem h]
theorem Tot.lim {n : Nat} {P : Unit → Prop} (h : n ≤ 4294967296) (k : P ()) : Tot (lim n) P := ⟨(), by unfold Go.Proofs.YtlokemkpgnngjaaGreatDoor.lim; rw [if_pos h], k⟩
theorem Tot.optE {γ : Type} {o : Option γ} {z : Option α} {f : γ → Option α} {c : γ} (h : o = some c) (k : Tot (f c) P) : Tot (optE o z f) P := by
  subst h; exact k
theorem Tot.forL {γ : Type} {body : Nat → γ → S → Option (Step R S)} {xs : List γ} {i : Nat} {s : S} {Q : Lr R S → Prop} (I : Nat → S → Prop) (h0 : I 0 s)
    (step : ∀ j c s, xs[j]? = some c → I j s → Tot (body (i + j) c s) fun r => match r with
      | .next s => I (j + 1) s
      | .brk s => Q (.go s)
      | .ret r => Q (.ret r)) (h1 : ∀ s, I xs.length s → Q (.go s)) : Tot (forL body i xs s) Q := by
  induction xs generalizing i s I with
  | nil => exact ⟨_, rfl, h1 _ h0⟩
  | cons c xs ih =>
    obtain ⟨r, hr, hq⟩ := step 0 c s (by simp) h0
    unfold Go.Proofs.YtlokemkpgnngjaaGreatDoor.forL
    rw [Nat.add_zero] at hr
    rw [hr]
    cases r with
    | next s' =>
      refine ih (fun j => I (j + 1)) hq (fun j c s hc hi => ?_) (fun s hs => h1 s (by simpa using hs))
      have := step (j + 1) c s (by simpa using hc) hi
      rwa [show i + 1 + j = i + (j + 1) by omega]
    | brk s' => exact ⟨_, rfl, hq⟩
    | ret r => exact ⟨_, rfl, hq⟩
theorem Tot.whileL {body : S → Option (Step R S)} {k : Nat} {s : S} {Q : Lr R S → Prop} (I : Nat → S → Prop) (n : Nat) (hn : n < k) (h0 : I n s)
    (step : ∀ n s, I n s → Tot (body s) fun r => match r with
      | .next s => ∃ m, m < n ∧ I m s
      | .brk s => Q (.go s)
      | .ret r => Q (.ret r)) : Tot (whileL body k s) Q := by
  induction k generalizing n s with
  | zero => omega
  | succ k ih =>
    obtain ⟨r, hr, hq⟩ := step n s h0
    unfold Go.Proofs.YtlokemkpgnngjaaGreatDoor.whileL
    rw [hr]
    cases r with
    | next s' =>
      obtain ⟨m, hm, hi⟩ := hq
      exact ih m (by omega) hi
    | brk s' => exact ⟨_, rfl, hq⟩
    | ret r => exact ⟨_, rfl, hq⟩
end
end Go.Proofs.YtlokemkpgnngjaaGreatDoor
