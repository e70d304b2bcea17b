/- The package lattice, in plain words: what a lattice that New made answers. No program in sight. -/
import Derived.Test.YtliaopbgkcdibaaGreatLd
set_option linter.unusedVariables false
set_option linter.unusedSimpArgs false
namespace Go.Proofs.YtliaopbgkcdibaaGreat

structure Lat (n : Nat) (r : Nat → Nat → Prop) (L : Tlattice_Lattice) : Prop where
  small : n ≤ 16
  pos : 0 < n
  names : L.names_.length = n
  up : Bits n L.up_ r
  down : Bits n L.down_ (fun a b => r b a)
  good : ∀ a b, a < n → b < n → Good n r L.join_ L.meet_ a b
section
variable {n : Nat} {r : Nat → Nat → Prop} {L : Tlattice_Lattice}
theorem is_in (k : Nat) (h : Lat n r L) {a : Nat} (ha : a < n) : lattice_Lattice_is k (some L) (a : Int) = some true := by
  unfold lattice_Lattice_is
  have := h.names
  simp [optE]
  omega
theorem leq_in (k : Nat) (h : Lat n r L) {a b : Nat} (ha : a < n) (hb : b < n) : ∃ v : Bool, lattice_Lattice_Leq k (some L) (a : Int) (b : Int) = some v ∧ (v = true ↔ r a b) := by
  obtain ⟨m, m1, m2, m3⟩ := h.up.bits a ha
  have hn := h.small
  refine ⟨m.testBit b, ?_, m3 b⟩
  unfold lattice_Lattice_Leq
  simp only [is_in k h ha, is_in k h hb, Option.bind_some, cond_true, optE, getO_nat, m1, has_nat k (lt_u32 hn m2) (show b < 32 by omega)]
end
/-- What New answers, whole. -/
theorem new_all (k : Nat) (hk : 1048577 ≤ k) (names : List ByteArray) (E : List TPair) (hn : names.length ≤ 16) (hE : E.length ≤ 64) :
    (∃ L, lattice_New k names E = some (some L, 0) ∧ Lat names.length (Way names E) L ∧ L.names_ = names ∧ L.at_ = atL 0 names ∧ fits names E) ∨
    (lattice_New k names E = some (none, 12) ∧ fits names E ∧ (names.length = 0 ∨ ∃ a b, a < names.length ∧ b < names.length ∧ Poor names.length (Way names E) a b)) ∨
    (lattice_New k names E = some (none, 11) ∧ ¬ fits names E) := by
  rcases new_spec k hk hn hE with ⟨hf, up, dn, h1, h2, h3⟩ | ⟨hf, h1⟩
  · rcases tables_spec (names := names) (at_ := atL 0 names) (J0 := []) (M0 := []) k hn rfl h1 h2 with ⟨J, M, g1, g2, g3⟩ | ⟨L, g1, g2⟩
    · left
      refine ⟨_, by rw [h3, g1]; rfl, ⟨hn, g2, rfl, h1, h2, g3⟩, rfl, rfl, hf⟩
    · right; left
      exact ⟨by rw [h3, g1]; rfl, hf, g2⟩
  · exact .inr (.inr ⟨h1, hf⟩)
theorem new_many (k : Nat) (names : List ByteArray) (E : List TPair) (h : 16 < names.length ∨ 64 < E.length) : lattice_New k names E = some (none, 8) := by
  unfold lattice_New
  by_cases h1 : 16 < names.length
  · rw [decide_eq_true (show (16 : Int) < (names.length : Int) by omega)]; rfl
  · have h2 : 64 < E.length := h.resolve_left h1
    rw [decide_eq_false (show ¬ (16 : Int) < (names.length : Int) by omega), decide_eq_true (show (64 : Int) < (E.length : Int) by omega)]; rfl
/-- New hangs on the ways, and on whether the names fit, alone. -/
theorem new_same (k : Nat) (hk : 1048577 ≤ k) (names : List ByteArray) (E E' : List TPair) (hE : E.length ≤ 64) (hE' : E'.length ≤ 64) (hf : fits names E ↔ fits names E') (hw : fits names E → ∀ a b, Way names E a b ↔ Way names E' a b) : lattice_New k names E = lattice_New k names E' := by
  by_cases hn : names.length ≤ 16
  · rcases new_spec (E := E) k hk hn hE with ⟨h0, up, dn, h1, h2, h3⟩ | ⟨h0, h1⟩ <;> rcases new_spec (E := E') k hk hn hE' with ⟨g0, up', dn', g1, g2, g3⟩ | ⟨g0, g1⟩
    · rw [h3, g3, h1.uniq (g1.congr fun a b _ => (hw h0 a b).symm), h2.uniq (g2.congr fun a b _ => (hw h0 b a).symm)]
    · exact absurd (hf.1 h0) g0
    · exact absurd (hf.2 g0) h0
    · rw [h1, g1]
  · rw [new_many k names E (.inl (by omega)), new_many k names E' (.inl (by omega))]
end Go.Proofs.YtliaopbgkcdibaaGreat
