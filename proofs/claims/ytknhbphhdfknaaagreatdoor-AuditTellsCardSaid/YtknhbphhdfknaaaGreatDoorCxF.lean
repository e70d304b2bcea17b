import Derived.Tactics
import Derived.IntWalk
namespace Go.Proofs.YtknhbphhdfknaaaGreatDoor
inductive Step (R S : Type) where
 | next (s : S)
 | brk (s : S)
 | ret (r : R)
inductive Lr (R S : Type) where
 | go (s : S)
 | ret (r : R)
def Lr.k {R S β : Type} (f : R → Option β) (g : S → Option β) : Lr R S → Option β
 | .go s => g s
 | .ret r => f r
def forL {α R S : Type} (body : Nat → α → S → Option (Step R S)) : Nat → List α → S → Option (Lr R S)
 | _, [], s => some (.go s)
 | i, x :: xs, s => (body i x s).bind fun
  | .next s => forL body (i + 1) xs s
  | .brk s => some (.go s)
  | .ret r => some (.ret r)
def whileL {R S : Type} (body : S → Option (Step R S)) : Nat → S → Option (Lr R S)
 | 0, _ => none
 | k + 1, s => (body s).bind fun
  | .next s => whileL body k s
  | .brk s => some (.go s)
  | .ret r => some (.ret r)
def getO {α : Type} (xs : List α) (i : Int) : Option α := if 0 ≤ i then xs[i.toNat]? else none
abbrev w64 (x : Int) : Int := IntKind.wrap .i64 x
def kAlive : Nat := 1048577
def lim (n : Nat) : Option Unit := if n ≤ 4294967296 then some () else none
def quoO (k : IntKind) (x y : Int) : Option Int := if y = 0 then none else some (k.wrap (x.tdiv y))
def remO (x y : Int) : Option Int := if y = 0 then none else some (x.tmod y)
def shlO (k : IntKind) (x y : Int) : Option Int := if y < 0 then none else some (k.wrap (x * 2 ^ min y.toNat k.bits))
def shrO (k : IntKind) (x y : Int) : Option Int := if y < 0 then none else some (x.fdiv (2 ^ min y.toNat k.bits))
def strAt (s : ByteArray) (i : Int) : Option Int := if h : 0 ≤ i ∧ i < s.size then some ((s[i.toNat]'(by omega)).toNat : Int) else none
def strCut (s : ByteArray) (l h : Int) : Option ByteArray := if 0 ≤ l ∧ l ≤ h ∧ h ≤ s.size then some (s.extract l.toNat h.toNat) else none
def cutO {α : Type} (xs : List α) (l h : Int) : Option (List α) := if 0 ≤ l ∧ l ≤ h ∧ h ≤ xs.length then some ((xs.take h.toNat).drop l.toNat) else none
def optE {α β : Type} (p : Option α) (a : β) (f : α → β) : β := match p with
 | none => a
 | some x => f x
def mkO {α : Type} (n : Int) (z : α) : Option (List α) := if 0 ≤ n ∧ n ≤ 4294967296 then some (List.replicate n.toNat z) else none
def mget {K V : Type} [DecidableEq K] : List (K × V) → K → Option V
 | [], _ => none
 | p :: l, k => if p.1 = k then some p.2 else mget l k
def mput {K V : Type} [DecidableEq K] : List (K × V) → K → V → List (K × V)
 | [], k, v => [(k, v)]
 | p :: l, k, v => if p.1 = k then (k, v) :: l else p :: mput l k v
def inB (n : Nat) (i : Int) : Option Unit := if 0 ≤ i ∧ i < n then some () else none
def setA (xs : List Int) (i : Nat) (x : Int) : List Int := if i < xs.length then xs.set i x else xs ++ List.replicate (i - xs.length) 0 ++ [x]
def setO {α : Type} (xs : List α) (i : Int) (x : α) : List α := xs.set i.toNat x
def ofB (xs : List Int) : ByteArray := ⟨(xs.map fun n => UInt8.ofNat n.toNat).toArray⟩
def LeO {α : Type} (a b : Option α) : Prop := ∀ r, a = some r → b = some r
theorem LeO.refl {α : Type} (a : Option α) : LeO a a := fun _ h => h
theorem LeO.bind {α β : Type} {a a' : Option α} {f f' : α → Option β} (h : LeO a a') (k : ∀ x, LeO (f x) (f' x)) : LeO (a.bind f) (a'.bind f') := by
 intro r hr
 cases a with
 | none => cases hr
 | some x => rw [h x rfl]; exact k x r hr
theorem LeO.cond {α : Type} {b : Bool} {x x' y y' : Option α} (h : LeO x x') (k : LeO y y') : LeO (bif b then x else y) (bif b then x' else y') := by
 cases b
 · exact k
 · exact h
theorem LeO.optE {α β : Type} {x x' : Option α} {f f' : β → Option α} (h : LeO x x') (k : ∀ y, LeO (f y) (f' y)) (p : Option β) : LeO (optE p x f) (optE p x' f') := by
 cases p
 · exact h
 · exact k _
theorem LeO.forL {α R S : Type} {b b' : Nat → α → S → Option (Step R S)} (h : ∀ i x s, LeO (b i x s) (b' i x s)) : ∀ (xs : List α) (i : Nat) (s : S), LeO (forL b i xs s) (forL b' i xs s)
 | [], _, _ => LeO.refl _
 | x :: xs, i, s => LeO.bind (h i x s) fun st => by
  cases st
  · exact LeO.forL h xs _ _
  · exact LeO.refl _
  · exact LeO.refl _
theorem LeO.whileL {R S : Type} {b b' : S → Option (Step R S)} (h : ∀ s, LeO (b s) (b' s)) : ∀ (k : Nat) (s : S), LeO (whileL b k s) (whileL b' (k + 1) s)
 | 0, _ => fun _ hr => by cases hr
 | k + 1, s => LeO.bind (h s) fun st => by
  cases st
  · exact LeO.whileL h k _
  · exact LeO.refl _
  · exact LeO.refl _
theorem bd {α β : Type} {x : Option α} {f : α → Option β} {r : β} (h : x.bind f = some r) : ∃ y, x = some y ∧ f y = some r := by
 cases x with
 | none => cases h
 | some y => exact ⟨y, rfl, h⟩
theorem ct {α : Type} {b : Bool} {x y : Option α} {r : α} (hb : b = true) (h : (bif b then x else y) = some r) : x = some r := by subst hb; exact h
theorem cf {α : Type} {b : Bool} {x y : Option α} {r : α} (hb : b = false) (h : (bif b then x else y) = some r) : y = some r := by subst hb; exact h
theorem op_n {α β : Type} {p : Option α} {a : Option β} {f : α → Option β} {r : β} (hp : p = none) (h : optE p a f = some r) : a = some r := by subst hp; exact h
theorem op_s {α β : Type} {p : Option α} {x : α} {a : Option β} {f : α → Option β} {r : β} (hp : p = some x) (h : optE p a f = some r) : f x = some r := by subst hp; exact h
theorem mkO_some {α : Type} {n : Int} {z : α} {l : List α} (h : mkO n z = some l) : n = (l.length : Int) ∧ l.length ≤ 4294967296 ∧ l = List.replicate l.length z := by
 unfold mkO at h
 split at h
 · cases h; simp; omega
 · cases h
theorem getO_some {α : Type} {xs : List α} {i : Int} {x : α} (h : getO xs i = some x) : 0 ≤ i ∧ xs[i.toNat]? = some x := by
 unfold getO at h
 split at h
 · exact ⟨by assumption, h⟩
 · cases h
theorem lim_le {n : Nat} {u : Unit} (h : lim n = some u) : n ≤ 4294967296 := by
 unfold lim at h
 split at h
 · assumption
 · cases h
def nxt {α R S : Type} (b : Nat → α → S → Option (Step R S)) (i : Nat) (xs : List α) : Step R S → Option (Lr R S)
 | .next s => forL b (i + 1) xs s
 | .brk s => some (.go s)
 | .ret r => some (.ret r)
def wnxt {R S : Type} (b : S → Option (Step R S)) (k : Nat) : Step R S → Option (Lr R S)
 | .next s => whileL b k s
 | .brk s => some (.go s)
 | .ret r => some (.ret r)
section
variable {α R S β : Type} {b : Nat → α → S → Option (Step R S)} {b' : S → Option (Step R S)} {i k : Nat} {x : α} {xs : List α} {s : S} {r : R} {o : Lr R S}
theorem forL_nil (h : forL b i [] s = some o) : o = .go s := by simp only [forL, Option.some.injEq] at h; exact h.symm
theorem forL_step (h : forL b i (x :: xs) s = some o) : ∃ st, b i x s = some st ∧ nxt b i xs st = some o := by
 simp only [forL] at h
 obtain ⟨st, h1, h2⟩ := bd h
 refine ⟨st, h1, ?_⟩
 cases st <;> exact h2
theorem while_step (h : whileL b' (k + 1) s = some o) : ∃ st, b' s = some st ∧ wnxt b' k st = some o := by
 simp only [whileL] at h
 obtain ⟨st, h1, h2⟩ := bd h
 refine ⟨st, h1, ?_⟩
 cases st <;> exact h2
theorem nxt_ret (h : nxt b i xs (.ret r) = some o) : o = .ret r := by simp only [nxt, Option.some.injEq] at h; exact h.symm
theorem wnxt_brk (h : wnxt b' k (.brk s) = some o) : o = .go s := by simp only [wnxt, Option.some.injEq] at h; exact h.symm
theorem wnxt_ret (h : wnxt b' k (.ret r) = some o) : o = .ret r := by simp only [wnxt, Option.some.injEq] at h; exact h.symm
theorem lrk_go {f : R → Option β} {g : S → Option β} {q : β} (h : Lr.k f g (.go s) = some q) : g s = some q := h
theorem lrk_ret {f : R → Option β} {g : S → Option β} {q : β} (h : Lr.k f g (.ret r) = some q) : f r = some q := h
end
theorem natIdx {α : Type} {xs : List α} {i : Nat} {x : α} (h : xs[i]? = some x) : xs[(i : Int).toNat]? = some x := by simpa using h
theorem bool_or (b : Bool) : b = true ∨ b = false := by cases b <;> simp
theorem w64_id {x : Int} (h : -9223372036854775808 ≤ x ∧ x ≤ 9223372036854775807) : w64 x = x := IntWalk.i64_in x (by omega)
theorem w64_succ {i n : Nat} (h : i < n) (hn : n ≤ 9223372036854775807) : w64 ((i : Int) + (1 : Int)) = ((i + 1 : Nat) : Int) := by
 rw [w64_id (by omega)]; rfl
theorem drop_cons {α : Type} {xs rest : List α} {i : Nat} {x : α} (h : xs.drop i = x :: rest) : xs[i]? = some x ∧ xs.drop (i + 1) = rest ∧ i < xs.length := by
 have hl : i < xs.length := by
  rcases Nat.lt_or_ge i xs.length with hl | hl
  · exact hl
  · rw [List.drop_eq_nil_of_le hl] at h; cases h
 rw [List.drop_eq_getElem_cons hl] at h
 injection h with h1 h2
 exact ⟨by rw [List.getElem?_eq_getElem hl, h1], h2, hl⟩
theorem drop_nil {α : Type} {xs : List α} {i : Nat} (h : xs.drop i = []) (hi : i ≤ xs.length) : i = xs.length := by
 have := congrArg List.length h
 simp at this; omega
def slt (a b : ByteArray) : Bool := Op.bytesLess a.toList b.toList
end Go.Proofs.YtknhbphhdfknaaaGreatDoor
