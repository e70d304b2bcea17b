import Derived.WalkKit
import Derived.Test.YtknhbphhdfknaaaGreatDoorCxF
import Derived.KernelRfl
import Derived.Deep.LoopGhost
import Derived.Laws.IdiomCopy
import Derived.Laws.CopyOwn
set_option linter.unusedVariables false
set_option linter.unusedSimpArgs false
namespace Go.Proofs.YtknhbphhdfknaaaGreatDoor
open Go.RowKit
abbrev GH := Nat → Option Obj
def GH.le (G G' : GH) : Prop := ∀ k o, G k = some o → G' k = some o
def GH.cell (G : GH) (b o : Nat) : Option Value := match G b with | some (.cells cs _ _) => cs[o]? | _ => none
def GH.with (G : GH) (b : Nat) (o : Obj) : GH := fun k => if k = b then some o else G k
theorem GH.le.refl (G : GH) : G.le G := fun _ _ h => h
theorem GH.le.trans {A B C : GH} (h : A.le B) (k : B.le C) : A.le C := fun i o hi => k i o (h i o hi)
theorem GH.le.cell {G G' : GH} (h : G.le G') {b o : Nat} {v : Value} (hc : G.cell b o = some v) : G'.cell b o = some v := by
 unfold GH.cell at hc ⊢
 cases hb : G b with
 | none => simp [hb] at hc
 | some x => rw [h b x hb]; simpa [hb] using hc
theorem GH.le_with {G : GH} {b : Nat} {o : Obj} (h : G b = none) : G.le (G.with b o) := fun k x hk => by
 unfold GH.with; split
 · subst_vars; rw [h] at hk; cases hk
 · exact hk
theorem GH.with_self (G : GH) (b : Nat) (o : Obj) : G.with b o b = some o := by simp [GH.with]
inductive D where
 | int (k : IntKind) (n : Int)
 | bool (b : Bool)
 | str (s : ByteArray)
 | cx (re im : Nat)
 | st (fs : List D)
 | sl (sz : Nat) (xs : List D)
 | nul
 | pt (T : Nat) (x : D)
 | mp (agg : Bool) (kvs : List D)
def At (G : GH) (b o : Nat) (cs : List Value) : Prop := ∀ j, j < cs.length → G.cell b (o + j) = cs[j]?
mutual
def Rep (G : GH) : D → List Value → Prop
 | .int k n, cs => cs = [.int k n]
 | .bool b, cs => cs = [.bool b]
 | .str s, cs => cs = [.string s]
 | .cx a b, cs => cs = [.complex .f64 a b]
 | .st fs, cs => RepF G fs cs
 | .sl sz xs, cs => ∃ A c, cs = [.slice A xs.length c] ∧ xs.length ≤ c ∧ c ≤ maxLen ∧ (xs = [] ∨ ∃ b o, A = some ⟨b, o, none⟩ ∧ RepE G b sz xs o)
 | .nul, cs => cs = [.pointer none]
 | .pt T x, cs => ∃ b cells, cs = [.pointer (some ⟨b, 0, none⟩)] ∧ At G b 0 cells ∧ Rep G x cells
 | .mp agg kvs, cs => ∃ m es clock, cs = [.map (some m)] ∧ G m = some (.map es clock) ∧ RepM G agg kvs es.toList
def RepF (G : GH) : List D → List Value → Prop
 | [], cs => cs = []
 | d :: ds, cs => ∃ c1 c2, cs = c1 ++ c2 ∧ Rep G d c1 ∧ RepF G ds c2
def RepE (G : GH) (b sz : Nat) : List D → Nat → Prop
 | [], _ => True
 | d :: ds, o => (∃ cs, cs.length = sz ∧ Rep G d cs ∧ At G b o cs) ∧ RepE G b sz ds (o + sz)
def RepM (G : GH) (agg : Bool) : List D → List MapEntry → Prop
 | [], es => es = []
 | [_], _ => False
 | k :: v :: l, es => ∃ e es', es = e :: es' ∧ Rep G k [e.key] ∧ (∃ c, Rep G v c ∧ (if agg then e.val = .agg ⟨c⟩ else c = [e.val])) ∧ RepM G agg l es'
end
theorem At.mono {G G' : GH} (h : G.le G') {b o : Nat} {cs : List Value} (ha : At G b o cs) : At G' b o cs := fun j hj => by
 have := ha j hj
 rw [List.getElem?_eq_getElem hj] at this ⊢
 exact h.cell this
mutual
theorem Rep.mono {G G' : GH} (h : G.le G') : ∀ (d : D) {cs : List Value}, Rep G d cs → Rep G' d cs
 | .int k n, _, hr => by simpa only [Rep] using hr
 | .bool b, _, hr => by simpa only [Rep] using hr
 | .str s, _, hr => by simpa only [Rep] using hr
 | .cx _ _, _, hr => by simpa only [Rep] using hr
 | .st fs, _, hr => by simp only [Rep] at hr ⊢; exact RepF.mono h fs hr
 | .sl sz xs, _, hr => by
  simp only [Rep] at hr ⊢
  obtain ⟨A, c, h1, h2, h3, h4⟩ := hr
  refine ⟨A, c, h1, h2, h3, ?_⟩
  rcases h4 with h4 | ⟨b, o, h4, h5⟩
  · exact .inl h4
  · exact .inr ⟨b, o, h4, RepE.mono h xs h5⟩
 | .nul, _, hr => by simpa only [Rep] using hr
 | .pt T x, _, hr => by
  simp only [Rep] at hr ⊢
  obtain ⟨b, cells, h1, h2, h3⟩ := hr
  exact ⟨b, cells, h1, h2.mono h, Rep.mono h x h3⟩
 | .mp agg kvs, _, hr => by
  simp only [Rep] at hr ⊢
  obtain ⟨m, es, cl, h1, h2, h3⟩ := hr
  exact ⟨m, es, cl, h1, h _ _ h2, RepM.mono h kvs h3⟩
theorem RepF.mono {G G' : GH} (h : G.le G') : ∀ (ds : List D) {cs : List Value}, RepF G ds cs → RepF G' ds cs
 | [], _, hr => by simpa only [RepF] using hr
 | d :: ds, _, hr => by
  simp only [RepF] at hr ⊢
  obtain ⟨c1, c2, h1, h2, h3⟩ := hr
  exact ⟨c1, c2, h1, Rep.mono h d h2, RepF.mono h ds h3⟩
theorem RepE.mono {G G' : GH} (h : G.le G') {b sz : Nat} : ∀ (ds : List D) {o : Nat}, RepE G b sz ds o → RepE G' b sz ds o
 | [], _, _ => by simp only [RepE]
 | d :: ds, _, hr => by
  simp only [RepE] at hr ⊢
  obtain ⟨⟨cs, h1, h2, h3⟩, h4⟩ := hr
  exact ⟨⟨cs, h1, Rep.mono h d h2, h3.mono h⟩, RepE.mono h ds h4⟩
theorem RepM.mono {G G' : GH} (h : G.le G') {agg : Bool} : ∀ (ds : List D) {es : List MapEntry}, RepM G agg ds es → RepM G' agg ds es
 | [], _, hr => by simpa only [RepM] using hr
 | [_], _, hr => by simp only [RepM] at hr
 | k :: v :: ds, _, hr => by
  simp only [RepM] at hr ⊢
  obtain ⟨e, es', h1, h2, ⟨c, h3, h5⟩, h4⟩ := hr
  exact ⟨e, es', h1, Rep.mono h k h2, ⟨c, Rep.mono h v h3, h5⟩, RepM.mono h ds h4⟩
end
theorem RepE.at_ {G : GH} {b sz : Nat} : ∀ (ds : List D) {o : Nat}, RepE G b sz ds o → ∀ i (hi : i < ds.length), ∃ cs, cs.length = sz ∧ Rep G ds[i] cs ∧ At G b (o + i * sz) cs
 | [], _, _, i, hi => by simp at hi
 | d :: ds, o, hr, i, hi => by
  simp only [RepE] at hr
  cases i with
  | zero => simpa using hr.1
  | succ i =>
   obtain ⟨cs, h1, h2, h3⟩ := RepE.at_ ds hr.2 i (by simpa using hi)
   refine ⟨cs, h1, by simpa using h2, ?_⟩
   have e : o + (i + 1) * sz = o + sz + i * sz := by rw [Nat.succ_mul]; omega
   rw [e]; exact h3
theorem RepE.of_at {G : GH} {b sz : Nat} : ∀ (ds : List D) {o : Nat}, (∀ i (hi : i < ds.length), ∃ cs, cs.length = sz ∧ Rep G ds[i] cs ∧ At G b (o + i * sz) cs) → RepE G b sz ds o
 | [], _, _ => by simp only [RepE]
 | d :: ds, o, h => by
  simp only [RepE]
  refine ⟨by have := h 0 (by simp); simp only [Nat.zero_mul, Nat.add_zero] at this; exact this, RepE.of_at ds fun i hi => ?_⟩
  obtain ⟨cs, h1, h2, h3⟩ := h (i + 1) (by simpa using hi)
  refine ⟨cs, h1, by simpa using h2, ?_⟩
  have e : o + sz + i * sz = o + (i + 1) * sz := by rw [Nat.succ_mul]; omega
  rw [e]; exact h3
def Sl (G : GH) (A : Option Addr) (c sz : Nat) (xs : List D) : Prop := xs.length ≤ c ∧ c ≤ maxLen ∧ (xs = [] ∨ ∃ b o, A = some ⟨b, o, none⟩ ∧ RepE G b sz xs o)
theorem rep_sl {G : GH} {sz : Nat} {xs : List D} {cs : List Value} : Rep G (.sl sz xs) cs ↔ ∃ A c, cs = [.slice A xs.length c] ∧ Sl G A c sz xs := by
 simp only [Rep, Sl]
theorem Sl.mono {G G' : GH} (h : G.le G') {A : Option Addr} {c sz : Nat} {xs : List D} (hs : Sl G A c sz xs) : Sl G' A c sz xs := by
 obtain ⟨h1, h2, h3⟩ := hs
 refine ⟨h1, h2, ?_⟩
 rcases h3 with h3 | ⟨b, o, h3, h4⟩
 · exact .inl h3
 · exact .inr ⟨b, o, h3, h4.mono h⟩
theorem Sl.rep {G : GH} {A : Option Addr} {c sz : Nat} {xs : List D} (hs : Sl G A c sz xs) : Rep G (.sl sz xs) [.slice A xs.length c] := rep_sl.2 ⟨A, c, rfl, hs⟩
theorem Sl.nil (G : GH) (A : Option Addr) (c sz : Nat) (hc : c ≤ maxLen) : Sl G A c sz [] := ⟨by simp, hc, .inl rfl⟩
theorem Sl.le {G : GH} {A : Option Addr} {c sz : Nat} {xs : List D} (hs : Sl G A c sz xs) : xs.length ≤ 9223372036854775807 := by have := hs.1; have := hs.2.1; unfold maxLen at this; omega
theorem Sl.at_ {G : GH} {A : Option Addr} {c sz : Nat} {xs : List D} (hs : Sl G A c sz xs) (i : Nat) (hi : i < xs.length) :
 ∃ b o cs, A = some ⟨b, o, none⟩ ∧ cs.length = sz ∧ Rep G xs[i] cs ∧ At G b (o + i * sz) cs := by
 rcases hs.2.2 with h | ⟨b, o, h, h'⟩
 · subst h; simp at hi
 · obtain ⟨cs, h1, h2, h3⟩ := h'.at_ xs i hi
   exact ⟨b, o, cs, h, h1, h2, h3⟩
theorem Sl.cut {G : GH} {A : Option Addr} {c sz : Nat} {xs : List D} (hs : Sl G A c sz xs) (l h m : Nat) (h1 : l ≤ h) (h2 : h ≤ xs.length) (h3 : h ≤ m) (h4 : m ≤ c) :
 Sl G (if m = l then A else A.map (·.add (l * sz))) (m - l) sz ((xs.take h).drop l) := by
 refine ⟨by simp; omega, by have := hs.2.1; omega, ?_⟩
 by_cases e : l = h
 · left; simp; omega
 · right
   rcases hs.2.2 with h' | ⟨b, o, h', hr⟩
   · subst h'; simp at h2; omega
   · refine ⟨b, o + l * sz, ?_, RepE.of_at _ fun i hi => ?_⟩
     · rw [if_neg (by omega), h']; simp [Addr.add_lit]
     · simp at hi
       obtain ⟨cs, g1, g2, g3⟩ := hr.at_ xs (l + i) (by omega)
       refine ⟨cs, g1, by simpa using g2, ?_⟩
       have e : o + l * sz + i * sz = o + (l + i) * sz := by rw [Nat.add_mul]; omega
       rw [e]; exact g3
theorem rep_st {G : GH} {fs : List D} {cs : List Value} : Rep G (.st fs) cs ↔ RepF G fs cs := by simp only [Rep]
theorem repF_nil {G : GH} {cs : List Value} : RepF G [] cs ↔ cs = [] := by simp only [RepF]
theorem repF_int {G : GH} {k : IntKind} {n : Int} {ds : List D} {cs : List Value} : RepF G (.int k n :: ds) cs ↔ ∃ r, cs = .int k n :: r ∧ RepF G ds r := by
 simp only [RepF, Rep]
 constructor
 · rintro ⟨_, r, rfl, rfl, h⟩; exact ⟨r, rfl, h⟩
 · rintro ⟨r, rfl, h⟩; exact ⟨_, r, rfl, rfl, h⟩
theorem repF_bool {G : GH} {b : Bool} {ds : List D} {cs : List Value} : RepF G (.bool b :: ds) cs ↔ ∃ r, cs = .bool b :: r ∧ RepF G ds r := by
 simp only [RepF, Rep]
 constructor
 · rintro ⟨_, r, rfl, rfl, h⟩; exact ⟨r, rfl, h⟩
 · rintro ⟨r, rfl, h⟩; exact ⟨_, r, rfl, rfl, h⟩
theorem repF_str {G : GH} {s : ByteArray} {ds : List D} {cs : List Value} : RepF G (.str s :: ds) cs ↔ ∃ r, cs = .string s :: r ∧ RepF G ds r := by
 simp only [RepF, Rep]
 constructor
 · rintro ⟨_, r, rfl, rfl, h⟩; exact ⟨r, rfl, h⟩
 · rintro ⟨r, rfl, h⟩; exact ⟨_, r, rfl, rfl, h⟩
theorem rep_slm {G : GH} {sz : Nat} {α : Type} {f : α → D} {xs : List α} {cs : List Value} : Rep G (.sl sz (xs.map f)) cs ↔ ∃ A c, cs = [.slice A xs.length c] ∧ Sl G A c sz (xs.map f) := by
 rw [rep_sl, List.length_map]
theorem repF_slm {G : GH} {sz : Nat} {α : Type} {f : α → D} {xs : List α} {ds : List D} {cs : List Value} : RepF G (.sl sz (xs.map f) :: ds) cs ↔ ∃ A c r, cs = .slice A xs.length c :: r ∧ Sl G A c sz (xs.map f) ∧ RepF G ds r := by
 simp only [RepF, rep_slm]
 constructor
 · rintro ⟨_, r, rfl, ⟨A, c, rfl, hs⟩, h⟩; exact ⟨A, c, r, rfl, hs, h⟩
 · rintro ⟨A, c, r, rfl, hs, h⟩; exact ⟨_, r, rfl, ⟨A, c, rfl, hs⟩, h⟩
theorem rep_int {G : GH} {k : IntKind} {n : Int} {cs : List Value} : Rep G (.int k n) cs ↔ cs = [.int k n] := by simp only [Rep]
theorem rep_bool {G : GH} {b : Bool} {cs : List Value} : Rep G (.bool b) cs ↔ cs = [.bool b] := by simp only [Rep]
theorem rep_str {G : GH} {b : ByteArray} {cs : List Value} : Rep G (.str b) cs ↔ cs = [.string b] := by simp only [Rep]
def D.op {α : Type} (T : Nat) (f : α → D) : Option α → D
 | none => .nul
 | some x => .pt T (f x)
def Pt (G : GH) (A : Option Addr) {α : Type} (T : Nat) (f : α → D) (p : Option α) : Prop := Rep G (D.op T f p) [.pointer A]
theorem rep_op {G : GH} {α : Type} {T : Nat} {f : α → D} {p : Option α} {cs : List Value} : Rep G (D.op T f p) cs ↔ ∃ A, cs = [.pointer A] ∧ Pt G A T f p := by
 unfold Pt
 constructor
 · intro h
   cases p with
   | none => simp only [D.op, Rep] at h ⊢; subst h; exact ⟨none, rfl, rfl⟩
   | some x =>
    have h' := h
    simp only [D.op, Rep] at h'
    obtain ⟨b, cells, h1, h2, h3⟩ := h'
    subst h1
    exact ⟨_, rfl, h⟩
 · rintro ⟨A, rfl, h⟩; exact h
theorem Pt.cases {G : GH} {A : Option Addr} {α : Type} {T : Nat} {f : α → D} {p : Option α} (h : Pt G A T f p) : (p = none ∧ A = none) ∨ ∃ x b cells, p = some x ∧ A = some ⟨b, 0, none⟩ ∧ Rep G (f x) cells ∧ At G b 0 cells := by
 unfold Pt at h
 cases p with
 | none => simp [D.op, Rep] at h; exact .inl ⟨rfl, h⟩
 | some x =>
  simp only [D.op, Rep] at h
  obtain ⟨b, cells, h1, h2, h3⟩ := h
  simp at h1
  exact .inr ⟨x, b, cells, rfl, h1, h3, h2⟩
theorem Pt.isNone {G : GH} {A : Option Addr} {α : Type} {T : Nat} {f : α → D} {p : Option α} (h : Pt G A T f p) : A.isNone = p.isNone := by
 rcases h.cases with ⟨rfl, rfl⟩ | ⟨x, b, cs, rfl, rfl, _⟩ <;> rfl
theorem Pt.mono {G G' : GH} (hg : G.le G') {A : Option Addr} {α : Type} {T : Nat} {f : α → D} {p : Option α} (h : Pt G A T f p) : Pt G' A T f p := Rep.mono hg _ h
theorem Pt.nil {G : GH} {α : Type} {T : Nat} {f : α → D} : Pt G none T f (none : Option α) := by simp [Pt, D.op, Rep]
theorem Pt.mk {G : GH} {α : Type} {T : Nat} {f : α → D} {x : α} {b : Nat} {cells : List Value} (h : Rep G (f x) cells) (ha : At G b 0 cells) : Pt G (some ⟨b, 0, none⟩) T f (some x) := by
 simp only [Pt, D.op, Rep]; exact ⟨b, cells, rfl, ha, h⟩
theorem repF_op {G : GH} {α : Type} {T : Nat} {f : α → D} {p : Option α} {ds : List D} {cs : List Value} : RepF G (D.op T f p :: ds) cs ↔ ∃ A r, cs = .pointer A :: r ∧ Pt G A T f p ∧ RepF G ds r := by
 simp only [RepF, rep_op]
 constructor
 · rintro ⟨_, r, rfl, ⟨A, rfl, hs⟩, h⟩; exact ⟨A, r, rfl, hs, h⟩
 · rintro ⟨A, r, rfl, hs, h⟩; exact ⟨_, r, rfl, ⟨A, rfl, hs⟩, h⟩
def D.kv {K V : Type} (agg : Bool) (fk : K → D) (fv : V → D) (kvs : List (K × V)) : D := .mp agg (kvs.flatMap fun p => [fk p.1, fv p.2])
def Mp (G : GH) (A : Option Nat) {K V : Type} (agg : Bool) (fk : K → D) (fv : V → D) (kvs : List (K × V)) : Prop := Rep G (D.kv agg fk fv kvs) [.map A]
theorem rep_mp {G : GH} {K V : Type} {agg : Bool} {fk : K → D} {fv : V → D} {kvs : List (K × V)} {cs : List Value} : Rep G (D.kv agg fk fv kvs) cs ↔ ∃ A, cs = [.map A] ∧ Mp G A agg fk fv kvs := by
 unfold Mp D.kv
 constructor
 · intro h
   have h' := h
   simp only [Rep] at h'
   obtain ⟨m, es, cl, h1, h2, h3⟩ := h'
   subst h1; exact ⟨_, rfl, h⟩
 · rintro ⟨A, rfl, h⟩; exact h
theorem Mp.mono {G G' : GH} (hg : G.le G') {A : Option Nat} {K V : Type} {agg : Bool} {fk : K → D} {fv : V → D} {kvs : List (K × V)} (h : Mp G A agg fk fv kvs) : Mp G' A agg fk fv kvs := Rep.mono hg _ h
theorem repF_mp {G : GH} {K V : Type} {agg : Bool} {fk : K → D} {fv : V → D} {kvs : List (K × V)} {ds : List D} {cs : List Value} : RepF G (D.kv agg fk fv kvs :: ds) cs ↔ ∃ A r, cs = .map A :: r ∧ Mp G A agg fk fv kvs ∧ RepF G ds r := by
 simp only [RepF, rep_mp]
 constructor
 · rintro ⟨_, r, rfl, ⟨A, rfl, hs⟩, h⟩; exact ⟨A, r, rfl, hs, h⟩
 · rintro ⟨A, r, rfl, hs, h⟩; exact ⟨_, r, rfl, ⟨A, rfl, hs⟩, h⟩
def D.ar (k : IntKind) (n : Nat) (xs : List Int) : D := .st ((List.range n).map fun i => .int k (xs.getD i 0))
def arCells (k : IntKind) (n : Nat) (xs : List Int) : List Value := (List.range n).map fun i => .int k (xs.getD i 0)
theorem repF_ints {G : GH} (k : IntKind) : ∀ (l : List Int) {cs : List Value}, RepF G (l.map (D.int k)) cs ↔ cs = l.map (Value.int k)
 | [], cs => by simp only [List.map_nil, RepF]
 | x :: l, cs => by
  simp only [List.map_cons, RepF, Rep, repF_ints k l]
  constructor
  · rintro ⟨_, _, rfl, rfl, rfl⟩; rfl
  · rintro rfl; exact ⟨_, _, rfl, rfl, rfl⟩
theorem rep_ar {G : GH} {k : IntKind} {n : Nat} {xs : List Int} {cs : List Value} : Rep G (D.ar k n xs) cs ↔ cs = arCells k n xs := by
 have := repF_ints (G := G) (cs := cs) k ((List.range n).map fun i => xs.getD i 0)
 simp only [List.map_map, Function.comp_def] at this
 simp only [D.ar, Rep, arCells]; exact this
theorem repF_ar {G : GH} {k : IntKind} {n : Nat} {xs : List Int} {ds : List D} {cs : List Value} : RepF G (D.ar k n xs :: ds) cs ↔ ∃ r, cs = arCells k n xs ++ r ∧ RepF G ds r := by
 simp only [RepF, rep_ar]
 constructor
 · rintro ⟨_, r, rfl, rfl, h⟩; exact ⟨r, rfl, h⟩
 · rintro ⟨r, rfl, h⟩; exact ⟨_, r, rfl, rfl, h⟩
theorem len_le {G : GH} {A : Option Addr} {c sz : Nat} {α : Type} {f : α → D} {ys : List α} (h : Sl G A c sz (ys.map f)) : ys.length ≤ 9223372036854775807 := by simpa using h.le
def InG (G : GH) (w : World) : Prop := ∀ k o, G k = some o → w.heap[k]? = some o
theorem InG.lt {G : GH} {w : World} (h : InG G w) {k : Nat} (hk : G k ≠ none) : k < w.heap.size := by
 cases hg : G k with
 | none => exact absurd hg hk
 | some o => exact (Array.getElem?_eq_some_iff.1 (h k o hg)).1
theorem InG.cell {G : GH} {w : World} (h : InG G w) {b o : Nat} {v : Value} (hc : G.cell b o = some v) : w.cell? ⟨b, o, none⟩ = some v := by
 unfold GH.cell at hc
 cases hb : G b with
 | none => simp [hb] at hc
 | some x =>
  rw [hb] at hc
  cases x <;> simp at hc
  simp [World.cell?, h b _ hb, hc]
theorem InG.mono {G G' : GH} {w : World} (h : InG G' w) (hg : G.le G') : InG G w := fun k o hk => h k o (hg k o hk)
inductive Rs where
 | blk (b : Nat) (cs : List Value) (T : TypeId)
 | row (v : Value) (e : TypeId) (sz n : Nat) (cs : List Value)
 | map (m : Nat) (es : Array MapEntry) (clock : Nat)
 | rows (e : TypeId) (sz : Nat) (l : List (Value × Nat × List Value))
def Rs.foot : Rs → List Nat
 | .blk b _ _ => [b]
 | .row v _ _ _ _ => v.ownBlock.toList
 | .map m _ _ => [m]
 | .rows _ _ l => l.flatMap fun x => x.1.ownBlock.toList
def Rs.ok (w : World) : Rs → Prop
 | .blk b cs T => w.heap[b]? = some (.cells cs.toArray T (0, 0))
 | .row v e sz n cs => w.ownsRow 0 e sz v n cs
 | .map m es clock => w.heap[m]? = some (.map es clock)
 | .rows e sz l => (∀ x, x ∈ l → w.ownsRow 0 e sz x.1 x.2.1 x.2.2) ∧ l.Pairwise fun x y => ∀ b, x.1.ownBlock = some b → y.1.ownBlock ≠ some b
theorem ownsRow_kept {w w' : World} {e sz n : Nat} {v : Value} {cs : List Value} (h : w.ownsRow 0 e sz v n cs) (hb : ∀ b, v.ownBlock = some b → w'.heap[b]? = w.heap[b]?) : w'.ownsRow 0 e sz v n cs := by
 refine ⟨h.1, ?_⟩
 rcases h.2 with hn | ⟨g, cap, cur, rfl, hbg, hgg, rest⟩
 · exact .inl hn
 · exact .inr ⟨g, cap, cur, rfl, hbg, (hb g (by simp [Value.ownBlock])).trans hgg, rest⟩
theorem mem_rows {e sz : Nat} {l : List (Value × Nat × List Value)} {b : Nat} : b ∈ (Rs.rows e sz l).foot ↔ ∃ x, x ∈ l ∧ x.1.ownBlock = some b := by
 simp only [Rs.foot, List.mem_flatMap, Option.mem_toList]
theorem Rs.ok.lt {w : World} {r : Rs} (h : r.ok w) {b : Nat} (hb : b ∈ r.foot) : b < w.heap.size := by
 cases r with
 | blk b' cs T => simp only [Rs.foot, List.mem_singleton] at hb; subst hb; exact (Array.getElem?_eq_some_iff.1 h).1
 | row v e sz n cs => exact (World.ownsRow.lt h b (by simpa [Rs.foot] using hb)).2
 | map m es cl => simp only [Rs.foot, List.mem_singleton] at hb; subst hb; exact (Array.getElem?_eq_some_iff.1 h).1
 | rows e sz l =>
  obtain ⟨x, hx, hv⟩ := mem_rows.1 hb
  exact (World.ownsRow.lt (h.1 x hx) b hv).2
theorem Rs.ok.kept {w w' : World} {r : Rs} (h : r.ok w) (hb : ∀ b, b ∈ r.foot → w'.heap[b]? = w.heap[b]?) : r.ok w' := by
 cases r with
 | blk b' cs T => exact (hb b' (by simp [Rs.foot])).trans h
 | row v e sz n cs => exact ownsRow_kept h fun b hv => hb b (by simpa [Rs.foot] using hv)
 | map m es cl => exact (hb m (by simp [Rs.foot])).trans h
 | rows e sz l => exact ⟨fun x hx => ownsRow_kept (h.1 x hx) fun b hv => hb b (mem_rows.2 ⟨x, hx, hv⟩), h.2⟩
structure Inv (w0 : World) (G0 : GH) (D0 : List Nat) (G : GH) (L : List Rs) (w : World) : Prop where
 os : w.os = w0.os
 tape : w.tape = w0.tape
 output : w.output = w0.output
 size : w0.heap.size ≤ w.heap.size
 fr : ∀ k, k < w0.heap.size → k ∉ D0 → w.heap[k]? = w0.heap[k]?
 le : G0.le G
 fresh : ∀ k, k < w0.heap.size → k ∉ D0 → G k = G0 k
 inG : InG G w
 ok : ∀ r, r ∈ L → r.ok w
 sep : ∀ r, r ∈ L → ∀ b, b ∈ r.foot → G b = none ∧ (w0.heap.size ≤ b ∨ b ∈ D0)
 dis : L.Pairwise fun r s => ∀ b, b ∈ r.foot → b ∉ s.foot
theorem Inv.start {w : World} {G : GH} (h : InG G w) : Inv w G [] G [] w :=
 ⟨rfl, rfl, rfl, Nat.le_refl _, fun _ _ _ => rfl, GH.le.refl _, fun _ _ _ => rfl, h, by simp, by simp, .nil⟩
section
variable {w0 w w' : World} {G0 G G' : GH} {D0 : List Nat} {L L' : List Rs}
theorem Inv.lt (h : Inv w0 G0 D0 G L w) {r : Rs} (hr : r ∈ L) {b : Nat} (hb : b ∈ r.foot) : b < w.heap.size := (h.ok r hr).lt hb
theorem Inv.step (h : Inv w0 G0 D0 G L w) (hos : w'.os = w.os) (htape : w'.tape = w.tape) (hout : w'.output = w.output) (hsize : w.heap.size ≤ w'.heap.size)
 (F : List Nat) (hF : ∀ b, b ∈ F → b < w.heap.size → G b = none ∧ (w0.heap.size ≤ b ∨ b ∈ D0)) (hblock : ∀ k, k < w.heap.size → k ∉ F → w'.heap[k]? = w.heap[k]?)
 (hok : ∀ r, r ∈ L' → (r ∈ L ∧ ∀ b, b ∈ r.foot → b ∉ F) ∨ (r.ok w' ∧ ∀ b, b ∈ r.foot → w.heap.size ≤ b ∨ b ∈ F))
 (hdis : L'.Pairwise fun r s => ∀ b, b ∈ r.foot → b ∉ s.foot) : Inv w0 G0 D0 G L' w' := by
 have hG : ∀ k, G k ≠ none → k < w.heap.size ∧ k ∉ F := fun k hk =>
  ⟨h.inG.lt hk, fun hkF => hk (hF k hkF (h.inG.lt hk)).1⟩
 refine ⟨hos.trans h.os, htape.trans h.tape, hout.trans h.output, Nat.le_trans h.size hsize, ?_, h.le, h.fresh, ?_, ?_, ?_, hdis⟩
 · intro k hk hD
   by_cases hkF : k ∈ F
   · rcases (hF k hkF (Nat.lt_of_lt_of_le hk h.size)).2 with h1 | h1
     · omega
     · exact absurd h1 hD
   · exact (hblock k (Nat.lt_of_lt_of_le hk h.size) hkF).trans (h.fr k hk hD)
 · intro k o hk
   obtain ⟨h1, h2⟩ := hG k (by rw [hk]; simp)
   exact (hblock k h1 h2).trans (h.inG k o hk)
 · intro r hr
   rcases hok r hr with ⟨h1, h2⟩ | ⟨h1, _⟩
   · exact (h.ok r h1).kept fun b hb => hblock b (h.lt h1 hb) (h2 b hb)
   · exact h1
 · intro r hr b hb
   rcases hok r hr with ⟨h1, h2⟩ | ⟨h1, h2⟩
   · exact h.sep r h1 b hb
   · rcases h2 b hb with h3 | h3
     · refine ⟨?_, .inl (Nat.le_trans h.size h3)⟩
       cases hg : G b with
       | none => rfl
       | some o => have := (hG b (by rw [hg]; simp)).1; omega
     · by_cases hlt : b < w.heap.size
       · exact hF b h3 hlt
       · refine ⟨?_, .inl (by have := h.size; omega)⟩
         cases hg : G b with
         | none => rfl
         | some o => have := (hG b (by rw [hg]; simp)).1; omega
theorem Inv.drew (h : Inv w0 G0 D0 G L w) : Inv w0 G0 D0 G L w.drew :=
 ⟨h.os, h.tape, h.output, h.size, h.fr, h.le, h.fresh, h.inG, fun r hr => (h.ok r hr).kept fun _ _ => rfl, h.sep, h.dis⟩
theorem Inv.sub (h : Inv w0 G0 D0 G L w) (hs : L'.Sublist L) : Inv w0 G0 D0 G L' w :=
 ⟨h.os, h.tape, h.output, h.size, h.fr, h.le, h.fresh, h.inG, fun r hr => h.ok r (hs.subset hr), fun r hr => h.sep r (hs.subset hr), h.dis.sublist hs⟩
theorem Inv.dropN (h : Inv w0 G0 D0 G L w) (d : Nat) (hd : L.drop d = L') : Inv w0 G0 D0 G L' w := h.sub (hd ▸ List.drop_sublist d L)
theorem Inv.nil (h : Inv w0 G0 D0 G L w) : Inv w0 G0 D0 G [] w := h.sub (List.nil_sublist _)
theorem Inv.perm (h : Inv w0 G0 D0 G L w) (hp : L'.Perm L) : Inv w0 G0 D0 G L' w :=
 ⟨h.os, h.tape, h.output, h.size, h.fr, h.le, h.fresh, h.inG, fun r hr => h.ok r (hp.subset hr), fun r hr => h.sep r (hp.subset hr),
  (hp.symm.pairwise_iff (fun {x y} hxy b hb he => hxy b he hb)).1 h.dis⟩
theorem Inv.new (h : Inv w0 G0 D0 G L w) (o : Obj) (r : Rs) (hr : r.ok (w.alloc o)) (hf : r.foot = [w.heap.size]) : Inv w0 G0 D0 G (r :: L) (w.alloc o) := by
 refine h.step rfl rfl rfl (by show _ ≤ (w.heap.push o).size; simp) [] (by simp) (fun k hk _ => by show (w.heap.push o)[k]? = _; rw [Array.getElem?_push_lt hk, Array.getElem?_eq_getElem hk]) ?_ ?_
 · intro s hs
   rcases List.mem_cons.1 hs with rfl | hs
   · exact .inr ⟨hr, fun b hb => .inl (by rw [hf] at hb; rw [List.mem_singleton.1 hb]; exact Nat.le_refl _)⟩
   · exact .inl ⟨hs, by simp⟩
 · refine List.pairwise_cons.2 ⟨fun s hs b hb he => ?_, h.dis⟩
   rw [hf] at hb; obtain rfl := List.mem_singleton.1 hb
   have := h.lt hs he; omega
theorem Inv.blk (h : Inv w0 G0 D0 G L w) (cs : List Value) (T : TypeId) : Inv w0 G0 D0 G (.blk w.heap.size cs T :: L) (w.alloc (.cells cs.toArray T)) :=
 h.new _ _ (by show (w.heap.push _)[w.heap.size]? = _; simp) rfl
end
section
variable {w0 w w' : World} {G0 G G' : GH} {D0 : List Nat} {L L' : List Rs}
theorem Inv.turn (h : Inv w0 G0 D0 G L w) (i : Nat) {r : Rs} (hr : L[i]? = some r) (r' : Rs) (hos : w'.os = w.os) (htape : w'.tape = w.tape) (hout : w'.output = w.output) (hsize : w.heap.size ≤ w'.heap.size)
 (hblock : ∀ k, k < w.heap.size → k ∉ r.foot → w'.heap[k]? = w.heap[k]?) (hok : r'.ok w') (hf : r'.foot = r.foot ∨ ∃ b, r'.foot = [b] ∧ w.heap.size ≤ b) :
 Inv w0 G0 D0 G (L.set i r') w' := by
 have hi : i < L.length := (List.getElem?_eq_some_iff.1 hr).1
 have hm : r ∈ L := List.mem_of_getElem? hr
 have hd := h.dis
 rw [List.pairwise_iff_getElem] at hd
 have hri : L[i] = r := (List.getElem?_eq_some_iff.1 hr).2
 have other : ∀ j (hj : j < L.length), j ≠ i → ∀ b, b ∈ L[j].foot → b ∉ r.foot := by
  intro j hj hne b hb he
  rcases Nat.lt_or_gt_of_ne hne with hlt | hgt
  · exact hd j i hj hi hlt b hb (by rw [hri]; exact he)
  · exact hd i j hi hj hgt b (by rw [hri]; exact he) hb
 refine h.step hos htape hout hsize r.foot ?_ ?_ ?_ ?_
 · intro b hb _
   exact h.sep r hm b hb
 · intro k hk hkF
   exact hblock k hk hkF
 · intro s hs
   obtain ⟨j, hj, rfl⟩ := List.mem_iff_getElem.1 hs
   simp only [List.length_set] at hj
   by_cases hji : j = i
   · subst hji
     right
     simp only [List.getElem_set_self]
     refine ⟨hok, fun b hb => ?_⟩
     rcases hf with hf | ⟨b', hf, hge⟩
     · right; rw [hf] at hb; exact hb
     · left; rw [hf] at hb; rw [List.mem_singleton.1 hb]; exact hge
   · left
     rw [List.getElem_set_ne (by omega)]
     refine ⟨List.getElem_mem _, fun b hb hbF => other j hj hji b hb hbF⟩
 · rw [List.pairwise_iff_getElem]
   intro j1 j2 h1' h2' hlt b hb
   have h1 : j1 < L.length := by simpa using h1'
   have h2 : j2 < L.length := by simpa using h2'
   by_cases e1 : j1 = i
   · subst e1
     rw [List.getElem_set_self] at hb
     rw [List.getElem_set_ne (by omega)]
     intro he
     rcases hf with hf | ⟨b', hf, hge⟩
     · exact other j2 h2 (by omega) b he (by rw [← hf]; exact hb)
     · rw [hf] at hb; obtain rfl := List.mem_singleton.1 hb
       have := h.lt (List.getElem_mem h2) he; omega
   · rw [List.getElem_set_ne (by omega)] at hb
     by_cases e2 : j2 = i
     · subst e2
       rw [List.getElem_set_self]
       intro he
       rcases hf with hf | ⟨b', hf, hge⟩
       · exact other j1 h1 e1 b hb (by rw [← hf]; exact he)
       · rw [hf] at he; obtain rfl := List.mem_singleton.1 he
         have := h.lt (List.getElem_mem h1) hb; omega
     · rw [List.getElem_set_ne (by omega)]
       exact hd j1 j2 h1 h2 hlt b hb
theorem ownsRow_base {w : World} {b0 : Nat} {e : TypeId} {sz : Nat} {v : Value} {n : Nat} {xs : List Value} (h : w.ownsRow b0 e sz v n xs) : w.ownsRow 0 e sz v n xs := by
 refine ⟨h.1, ?_⟩
 rcases h.2 with hn | ⟨g, cap, cur, rfl, hbg, hgg, rest⟩
 · exact .inl hn
 · exact .inr ⟨g, cap, cur, rfl, Nat.zero_le _, hgg, rest⟩
end
end Go.Proofs.YtknhbphhdfknaaaGreatDoor
