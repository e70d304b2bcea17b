import Derived.Test.YtknhbphhdfknaaaGreatDoorCxL
import Derived.ProofKit
import Derived.OpenShut
import Derived.Carry
set_option linter.unusedVariables false
set_option linter.unusedSimpArgs false
namespace Go.Proofs.YtknhbphhdfknaaaGreatDoor
open Go.ChangeShapes Go.WideShapes Go.ChangeAt Go.RowKit
def hG (W : World) : GH := fun k => W.heap[k]?
theorem inG_hG (W : World) : InG (hG W) W := fun _ _ h => h
def aggT (P : Program) (t : TypeId) : Bool := match P.underlying t with
 | some (.struct _) => true
 | _ => false
def elD (P : Program) (e : TypeId) (l : List D) : D := if aggT P e then .st l else l.headD .nul
def Lv (P : Program) : Nat → TypeId → List D → Prop
 | 0, _, _ => False
 | fuel + 1, t, ls => match P.underlying t with
  | some .bool => ∃ b, ls = [.bool b]
  | some (.int k) => ∃ n, ls = [.int k n] ∧ (Lit.int k n).wf = true
  | some .string => ∃ s : ByteArray, ls = [.str s] ∧ s.size ≤ maxLen
  | some (.slice e) => ∃ es : List (List D), ls = [.sl (P.cellsOf e) (es.map (elD P e))] ∧ ∀ l, l ∈ es → Lv P fuel e l
  | some (.struct fs) => ∃ ps : List (List D), ls = ps.flatten ∧ ps.length = fs.size ∧ ∀ (j : Nat) (f : Field) (l : List D), fs.toList[j]? = some f → ps[j]? = some l → Lv P fuel f.type l
  | _ => False
def plainB (P : Program) (TS : List TypeId) : Bool :=
 TS.all fun t => match P.underlying t with
  | some .bool => true
  | some (.int _) => true
  | some .string => true
  | some (.slice e) => TS.contains e && decide (0 < P.cellsOf e) && (aggT P e || Nat.beq (P.cellsOf e) 1)
  | some (.struct fs) => fs.toList.all (fun f => TS.contains f.type) && Nat.beq (P.cellsOf t) (fs.toList.map fun f => P.cellsOf f.type).sum && (List.range fs.size).all fun j => match fs.toList[j]? with | some f => Nat.beq f.offset ((fs.toList.take j).map fun f => P.cellsOf f.type).sum | none => true
  | _ => false
theorem repF_app {G : GH} : ∀ {as bs : List D} {c1 c2 : List Value}, RepF G as c1 → RepF G bs c2 → RepF G (as ++ bs) (c1 ++ c2)
 | [], bs, c1, c2, h, k => by simp only [RepF] at h; subst h; exact k
 | a :: as, bs, c1, c2, h, k => by
  simp only [RepF] at h
  obtain ⟨x, y, rfl, h1, h2⟩ := h
  rw [List.append_assoc]
  simp only [List.cons_append, RepF]
  exact ⟨x, y ++ c2, rfl, h1, repF_app h2 k⟩
theorem repF_one {G : GH} {d : D} {cs : List Value} : RepF G [d] cs ↔ Rep G d cs := by
 simp only [RepF]
 constructor
 · rintro ⟨a, b, rfl, h, rfl⟩; simpa using h
 · intro h; exact ⟨cs, [], by simp, h, rfl⟩
section
variable {H : Type} {enc : TypeId × Value → H} {P : Program} {W : World} {base : Nat} {sp : Nat → Bool} {held : Bool}
theorem mapM_some {α β : Type} {f : α → Option β} : ∀ {l : List α} {r : List β}, l.mapM f = some r → r.length = l.length ∧ ∀ (j : Nat) (a : α), l[j]? = some a → ∃ b, f a = some b
 | [], r, h => by simp at h; subst h; simp
 | x :: l, r, h => by
  rw [List.mapM_cons] at h
  cases hx : f x with
  | none => simp [hx] at h
  | some y =>
   cases hl : l.mapM f with
   | none => simp [hx, hl] at h
   | some ys =>
    simp [hx, hl] at h
    subst h
    obtain ⟨h1, h2⟩ := mapM_some hl
    refine ⟨by simp [h1], fun j a ha => ?_⟩
    cases j with
    | zero => simp at ha; subst ha; exact ⟨y, hx⟩
    | succ j => exact h2 j a (by simpa using ha)
theorem fields_rep {G : GH} {fuel : Nat} : ∀ (fs : List Field) (cs : List Value) (o : Nat), (∀ (j : Nat) (f : Field), fs[j]? = some f → f.offset = o + ((fs.take j).map fun f => P.cellsOf f.type).sum) →
 (∀ f, f ∈ fs → ∃ l, RepF G l ((cs.drop f.offset).take (P.cellsOf f.type)) ∧ Lv P fuel f.type l) → cs.length = o + (fs.map fun f => P.cellsOf f.type).sum →
 ∃ ps : List (List D), RepF G ps.flatten (cs.drop o) ∧ ps.length = fs.length ∧ ∀ (j : Nat) (f : Field) (l : List D), fs[j]? = some f → ps[j]? = some l → Lv P fuel f.type l
 | [], cs, o, _, _, hl => ⟨[], by simp at hl; simp [RepF, hl], rfl, by simp⟩
 | f :: fs, cs, o, ho, hf, hl => by
  obtain ⟨l, h1, h2⟩ := hf f List.mem_cons_self
  have h0 := ho 0 f rfl
  simp at h0
  obtain ⟨ps, g1, g2, g3⟩ := fields_rep (G := G) fs cs (o + P.cellsOf f.type) (fun j f' hj => by
   have := ho (j + 1) f' (by simpa using hj)
   rw [List.take_succ_cons, List.map_cons, List.sum_cons] at this
   omega) (fun f' hf' => hf f' (List.mem_cons_of_mem _ hf')) (by simp at hl; omega)
  refine ⟨l :: ps, ?_, by simp [g2], fun j f' l' hj hl' => ?_⟩
  · rw [List.flatten_cons]
    have : cs.drop o = (cs.drop f.offset).take (P.cellsOf f.type) ++ cs.drop (o + P.cellsOf f.type) := by
     rw [h0, ← List.drop_drop, List.take_append_drop]
    rw [this]
    exact repF_app h1 g1
  · cases j with
    | zero => simp at hj hl'; subst hj; subst hl'; exact h2
    | succ j => exact g3 j f' l' (by simpa using hj) (by simpa using hl')
theorem mapM_get {α β : Type} {f : α → Option β} : ∀ {l : List α} {r : List β}, l.mapM f = some r → ∀ (j : Nat) (a : α), l[j]? = some a → ∃ b, r[j]? = some b ∧ f a = some b
 | [], r, h => by simp
 | x :: l, r, h => by
  rw [List.mapM_cons] at h
  cases hx : f x with
  | none => simp [hx] at h
  | some y =>
   cases hl : l.mapM f with
   | none => simp [hx, hl] at h
   | some ys =>
    simp [hx, hl] at h
    subst h
    intro j a ha
    cases j with
    | zero => simp at ha; subst ha; exact ⟨y, by simp, hx⟩
    | succ j => simpa using mapM_get hl j a (by simpa using ha)
theorem cells_at {a : Addr} {n : Nat} {cs : List Value} (h : W.cells? base a n = some cs) (hn : 0 < n) : a.spot = none ∧ cs.length = n ∧ At (hG W) a.block a.off cs := by
 unfold World.cells? at h
 split at h
 · obtain ⟨h1, _⟩ := mapM_some h
   have key : ∀ j, j < n → W.cell? (a.add j) = cs[j]? := fun j hj => by
    obtain ⟨b, hb, hf⟩ := mapM_get h j j (by simp [hj])
    rw [hf, hb]
   have hlen : cs.length = n := by simpa using h1
   have h0 := key 0 hn
   have hs : a.spot = none := by
    simp only [Addr.add, if_true] at h0
    unfold World.cell? at h0
    rw [List.getElem?_eq_getElem (by omega)] at h0
    split at h0
    · split at h0
      · cases h0
      · rename_i hs; simpa using hs
    · cases h0
   refine ⟨hs, hlen, fun j hj => ?_⟩
   rw [← key j (by omega)]
   obtain ⟨b, o, sp⟩ := a
   simp only at hs
   subst hs
   rw [Addr.add_lit]
   unfold GH.cell hG World.cell?
   cases hb : W.heap[b]? with
   | none => rfl
   | some x => cases x <;> simp
 · cases h
theorem rep_el {G : GH} {e : TypeId} {l : List D} {cs : List Value} (h : RepF G l cs) (h1 : aggT P e = true ∨ l.length = 1) : Rep G (elD P e l) cs := by
 unfold elD
 split
 · exact rep_st.2 h
 · rename_i hb
   rcases h1 with h1 | h1
   · exact absurd h1 hb
   · match l, h1 with
     | [d], _ => exact repF_one.1 h
theorem Lv.one {fuel : Nat} {t : TypeId} {l : List D} (h : Lv P fuel t l) (ha : aggT P t = false) : l.length = 1 := by
 cases fuel with
 | zero => exact h.elim
 | succ n =>
  unfold Lv at h
  unfold aggT at ha
  split at h
  · obtain ⟨b, rfl⟩ := h; rfl
  · obtain ⟨b, rfl, _⟩ := h; rfl
  · obtain ⟨b, rfl, _⟩ := h; rfl
  · obtain ⟨b, rfl, _⟩ := h; rfl
  · rename_i hu; rw [hu] at ha; cases ha
  · exact h.elim
theorem list_choice {α : Type} : ∀ (n : Nat) (Q : Nat → α → Prop), (∀ i, i < n → ∃ l, Q i l) → ∃ es : List α, es.length = n ∧ ∀ i, i < n → ∀ l, es[i]? = some l → Q i l
 | 0, Q, _ => ⟨[], rfl, by simp⟩
 | n + 1, Q, h => by
  obtain ⟨es, h1, h2⟩ := list_choice n Q fun i hi => h i (by omega)
  obtain ⟨l, hl⟩ := h n (by omega)
  refine ⟨es ++ [l], by simp [h1], fun i hi l' hl' => ?_⟩
  by_cases hin : i < n
  · rw [List.getElem?_append_left (by omega)] at hl'
    exact h2 i hin l' hl'
  · have : i = n := by omega
    subst this
    rw [List.getElem?_append_right (by omega)] at hl'
    simp [h1] at hl'
    subst hl'
    exact hl
theorem trod_lv {TS : List TypeId} (hT : plainB P TS = true) : ∀ (fuel : Nat) (t : TypeId) (cs : List Value) (x : DataW H × List MemPlace), t ∈ TS → DataW.trod enc P W base sp held fuel t cs = some x → ∃ ls, RepF (hG W) ls cs ∧ Lv P fuel t ls
 | 0, t, cs, x, _, h => by simp [DataW.trod] at h
 | fuel + 1, t, cs, x, ht, h => by
  have hp := List.all_eq_true.1 hT t ht
  have hL : ∀ ls, Lv P (fuel + 1) t ls = (match P.underlying t with
   | some .bool => ∃ b, ls = [.bool b]
   | some (.int k) => ∃ n, ls = [.int k n] ∧ (Lit.int k n).wf = true
   | some .string => ∃ s : ByteArray, ls = [.str s] ∧ s.size ≤ maxLen
   | some (.slice e) => ∃ es : List (List D), ls = [.sl (P.cellsOf e) (es.map (elD P e))] ∧ ∀ l, l ∈ es → Lv P fuel e l
   | some (.struct fs) => ∃ ps : List (List D), ls = ps.flatten ∧ ps.length = fs.size ∧ ∀ (j : Nat) (f : Field) (l : List D), fs.toList[j]? = some f → ps[j]? = some l → Lv P fuel f.type l
   | _ => False) := fun ls => by rw [Lv]
  simp only [hL]
  unfold DataW.trod at h
  cases hu : P.underlying t with
  | none => simp [hu] at hp
  | some u =>
   simp only [hu] at h hp ⊢
   have hx : DataW.trod enc P W base sp held (fuel + 1) t cs = some x := by unfold DataW.trod; simp only [hu]; exact h
   cases u with
   | bool =>
    match cs, h with
    | [.bool b], _ => exact ⟨[.bool b], by simp [RepF, Rep], b, rfl⟩
   | int k =>
    match cs, h with
    | [.int k' n], h =>
     simp only at h
     split at h
     · rename_i hk; obtain ⟨rfl, hw⟩ := hk; exact ⟨[.int k' n], by simp [RepF, Rep], n, rfl, hw⟩
     · cases h
   | string =>
    match cs, h with
    | [.string b], h =>
     simp only at h
     split at h
     · rename_i hk; exact ⟨[.str b], by simp [RepF, Rep], b, rfl, hk⟩
     · cases h
   | slice e =>
    simp only [Bool.and_eq_true, Bool.or_eq_true, decide_eq_true_eq] at hp
    obtain ⟨⟨he, hpos⟩, hag⟩ := hp
    match cs, h with
    | [.slice none 0 0], h => exact ⟨[.sl (P.cellsOf e) []], repF_one.2 (by simp only [Rep]; exact ⟨none, 0, rfl, Nat.zero_le _, Nat.zero_le _, .inl (by trivial)⟩), [], rfl, by simp⟩
    | [.slice (some a) len cap], h =>
     simp only at h
     split at h
     · rename_i hb
       cases hm : (List.range len).mapM (fun i => (W.cells? base (a.add (i * P.cellsOf e)) (P.cellsOf e)).bind (DataW.trod enc P W base sp held fuel e)) with
       | none => rw [hm] at h; cases h
       | some elems =>
        have hel : ∀ i, i < len → ∃ l, ∃ c, RepF (hG W) l c ∧ Lv P fuel e l ∧ c.length = P.cellsOf e ∧ (a.add (i * P.cellsOf e)).spot = none ∧ At (hG W) a.block (a.off + i * P.cellsOf e) c := by
         intro i hi
         obtain ⟨y, _, hy⟩ := mapM_get hm i i (by simp [hi])
         cases hc : W.cells? base (a.add (i * P.cellsOf e)) (P.cellsOf e) with
         | none => rw [hc] at hy; cases hy
         | some c =>
          rw [hc] at hy
          obtain ⟨l, h1, h2⟩ := trod_lv hT fuel e c y (by simpa using he) hy
          obtain ⟨h3, h4, h5⟩ := cells_at hc hpos
          refine ⟨l, c, h1, h2, h4, h3, ?_⟩
          have hbo : (a.add (i * P.cellsOf e)).block = a.block ∧ (a.add (i * P.cellsOf e)).off = a.off + i * P.cellsOf e := by
           unfold Addr.add; split <;> simp [*]
          rw [← hbo.1, ← hbo.2]; exact h5
        obtain ⟨es, hes, hq⟩ := list_choice len (fun i l => ∃ c, RepF (hG W) l c ∧ Lv P fuel e l ∧ c.length = P.cellsOf e ∧ (a.add (i * P.cellsOf e)).spot = none ∧ At (hG W) a.block (a.off + i * P.cellsOf e) c) hel
        refine ⟨[.sl (P.cellsOf e) (es.map (elD P e))], repF_one.2 ?_, es, rfl, fun l hl => ?_⟩
        · simp only [Rep]
          refine ⟨some a, cap, by simp [hes], by simp [hes, hb.2.1], hb.2.2, ?_⟩
          rcases Nat.eq_zero_or_pos len with h0 | h0
          · left; simp; exact List.eq_nil_of_length_eq_zero (by omega)
          · right
            obtain ⟨c, _, _, _, hs, _⟩ := hq 0 h0 (es[0]'(by omega)) (by simp)
            obtain ⟨b, o, spt⟩ := a
            have : spt = none := by simpa [Addr.add] using hs
            subst this
            refine ⟨b, o, rfl, RepE.of_at _ fun i hi => ?_⟩
            have hi' : i < es.length := by simpa using hi
            obtain ⟨c, g1, g2, g3, _, g5⟩ := hq i (by omega) (es[i]'hi') (by simp)
            refine ⟨c, g3, ?_, g5⟩
            simp only [List.getElem_map]
            refine rep_el g1 ?_
            cases hag' : aggT P e with
            | true => exact .inl rfl
            | false => exact .inr (g2.one hag')
        · obtain ⟨i, hi, rfl⟩ := List.mem_iff_getElem.1 hl
          obtain ⟨c, _, g2, _⟩ := hq i (by omega) (es[i]'hi) (by simp)
          exact g2
     · cases h
   | struct fs =>
    simp only [Bool.and_eq_true, Nat.beq_eq_true_eq, List.all_eq_true] at hp
    obtain ⟨⟨hf, hsum⟩, hoff⟩ := hp
    simp only at h
    split at h
    · rename_i hlen
      cases hm : fs.toList.mapM (fun f => DataW.trod enc P W base sp held fuel f.type ((cs.drop f.offset).take (P.cellsOf f.type))) with
      | none => rw [hm] at h; cases h
      | some xs =>
       obtain ⟨ps, h1, h2, h3⟩ := fields_rep (P := P) (G := hG W) (fuel := fuel) fs.toList cs 0 (fun j f hj => by
        have hj' : j < fs.size := by have := (List.getElem?_eq_some_iff.1 hj).1; simpa using this
        have := hoff j (List.mem_range.2 hj')
        rw [hj] at this
        simpa using this) (fun f hf' => by
         obtain ⟨j, hj⟩ := List.mem_iff_getElem?.1 hf'
         obtain ⟨y, _, hy⟩ := mapM_get hm j f hj
         exact trod_lv hT fuel f.type _ y (by simpa using hf f hf') hy) (by rw [hlen, Nat.eq_of_beq_eq_true hsum]; simp)
       exact ⟨ps.flatten, by simpa using h1, ps, rfl, by simpa using h2, h3⟩
    · cases h
   | _ => cases hp
theorem Lv.int {fuel : Nat} {t : TypeId} {k : IntKind} {ls : List D} (hu : P.underlying t = some (.int k)) (h : Lv P fuel t ls) : ∃ n, ls = [.int k n] ∧ (Lit.int k n).wf = true := by
 cases fuel with
 | zero => exact h.elim
 | succ n => unfold Lv at h; rw [hu] at h; exact h
theorem Lv.bool {fuel : Nat} {t : TypeId} {ls : List D} (hu : P.underlying t = some .bool) (h : Lv P fuel t ls) : ∃ b, ls = [.bool b] := by
 cases fuel with
 | zero => exact h.elim
 | succ n => unfold Lv at h; rw [hu] at h; exact h
theorem Lv.str {fuel : Nat} {t : TypeId} {ls : List D} (hu : P.underlying t = some .string) (h : Lv P fuel t ls) : ∃ s, ls = [.str s] ∧ s.size ≤ maxLen := by
 cases fuel with
 | zero => exact h.elim
 | succ n => unfold Lv at h; rw [hu] at h; exact h
theorem map_of {α : Type} {g : α → D} : ∀ (l : List D), (∀ d, d ∈ l → ∃ x, d = g x) → ∃ xs : List α, l = xs.map g
 | [], _ => ⟨[], rfl⟩
 | d :: l, h => by
  obtain ⟨x, rfl⟩ := h d List.mem_cons_self
  obtain ⟨xs, rfl⟩ := map_of l fun d hd => h d (List.mem_cons_of_mem _ hd)
  exact ⟨x :: xs, rfl⟩
theorem Lv.slice {fuel : Nat} {t e sz : Nat} {ls : List D} {α : Type} {g : α → D} (hu : P.underlying t = some (.slice e)) (hc : P.cellsOf e = sz) (hdec : ∀ n l, n < fuel → Lv P n e l → ∃ x, elD P e l = g x) (h : Lv P fuel t ls) : ∃ xs : List α, ls = [.sl sz (xs.map g)] := by
 cases fuel with
 | zero => exact h.elim
 | succ n =>
  unfold Lv at h; rw [hu] at h
  obtain ⟨es, rfl, he⟩ := h
  obtain ⟨xs, hxs⟩ := map_of (g := g) (es.map (elD P e)) fun d hd => by
   obtain ⟨l, hl, rfl⟩ := List.mem_map.1 hd
   exact hdec n l (by omega) (he l hl)
  exact ⟨xs, by rw [hxs, hc]⟩
theorem Lv.struct {fuel : Nat} {t : Nat} {ls : List D} {fs : Array Field} {ts : List Nat} (hu : P.underlying t = some (.struct fs)) (hts : fs.toList.map (·.type) = ts) (h : Lv P fuel t ls) : ∃ n, n < fuel ∧ ∃ ps : List (List D), ls = ps.flatten ∧ ps.length = ts.length ∧ ∀ (j : Nat) (f : Nat) (l : List D), ts[j]? = some f → ps[j]? = some l → Lv P n f l := by
 cases fuel with
 | zero => exact h.elim
 | succ n =>
  unfold Lv at h; rw [hu] at h
  obtain ⟨ps, rfl, h1, h2⟩ := h
  refine ⟨n, by omega, ps, rfl, by rw [← hts]; simp [h1], fun j f l hj hl => ?_⟩
  rw [← hts] at hj
  simp only [List.getElem?_map, Option.map_eq_some_iff] at hj
  obtain ⟨F, hF, rfl⟩ := hj
  exact h2 j F l hF hl
theorem elD_agg {e : TypeId} {l : List D} (h : aggT P e = true) : elD P e l = .st l := by unfold elD; rw [if_pos h]
theorem elD_one {e : TypeId} {d : D} (h : aggT P e = false) : elD P e [d] = d := by unfold elD; rw [if_neg (by simp [h])]; rfl
theorem Inv.below {w w0 : World} {G0 G : GH} {L : List Rs} (h : Inv w0 G0 [] G L w) : Below w0.heap.size w0 w := ⟨h.os, h.tape, h.output, h.size, fun k hk => h.fr k hk (by simp)⟩
theorem below_all (hl : laidOutB P = true) {W W' : World} (hb : Below W.heap.size W W') : ∀ {ts : List TypeId} {vs : List Value} {ds : List (DataW H)} {ps : List MemPlace}, (∀ t, t ∈ ts → P.readableRec t = true ∧ t < P.types.size) →
 DataW.TrodAll enc P W 0 (fun _ => true) true ts vs ds ps → (∀ x, x ∈ ps → x.block < W.heap.size) → DataW.TrodAll enc P W' 0 (fun b => decide (b < W.heap.size)) true ts vs ds ps
 | [], [], [], _, _, h, _ => h
 | t :: ts, v :: vs, d :: ds, _, hr, ⟨p, q, h1, h2, e⟩, hlt => by
  subst e
  exact ⟨p, q, Below.trod hl (hr t List.mem_cons_self).1 (hr t List.mem_cons_self).2 h1 hb fun x hx => hlt x (List.mem_append_left _ hx),
   below_all hl hb (fun t ht => hr t (List.mem_cons_of_mem _ ht)) h2 fun x hx => hlt x (List.mem_append_right _ hx), rfl⟩
theorem post_law {f : Func} {s : ChangeSpec} {W W' : World} {args : Array Value} {ds gs : List (DataW H)} {before : List MemPlace} {tb : Nat}
 (hl : laidOutB P = true) (hr : ∀ t, t ∈ f.params.toList → P.readableRec t = true ∧ t < P.types.size) (hv : s.vars = []) (ht : f.resultTypes = #[tb]) (hu : P.underlying tb = some .bool)
 (hW : DataW.Whole enc P f.params.toList s.vars false W args.toList ds gs before) (hb : Below W.heap.size W W')
 (hs : s.fn H (ds ++ gs) = { results := [.lit (.bool true)], args := ds }) : s.post enc P f false true false false W args (.bool true) W' := by
 have hW' := hW
 obtain ⟨p, q, h1, h2, rfl, h3, h4⟩ := hW
 rw [hv] at h2
 obtain ⟨rfl, rfl⟩ := trodVars_none h2
 refine ⟨ds, [], p ++ [], [], p, [], hW', ?_, ?_, ?_, ?_, fun h => by cases h⟩
 · rw [ht, hs]
   exact trodAll_mk1 (shut_bool hu true)
 · rw [hs]
   have hlt : ∀ x, x ∈ p → x.block < W.heap.size := fun x hx => by simpa using hW'.lt x (by simpa using hx)
   exact below_all hl hb hr h1 hlt
 · rw [hv, hs]; rfl
 · exact hb.frame _
theorem one_of {r : Reach} {t : TypeId} {v : Value} (hv : Value.okWide P W r base t v) (h : (match P.underlying t with | some (.slice _) => true | some .string => true | some .bool => true | some (.int _) => true | _ => false) = true) : v.cells.toList = [v] := by
 unfold Value.okWide at hv
 split at hv
 · rename_i hu; rw [hu] at h; cases h
 · rename_i hu; rw [hu] at h; cases h
 · cases v with
   | agg cs =>
    unfold Cell.okWide at hv
    split at h <;> rename_i hu <;> simp_all [Cell.ok]
   | _ => rfl
theorem agg_of {r : Reach} {t : TypeId} {v : Value} (hv : Value.okWide P W r base t v) (h : (match P.underlying t with | some (.struct _) => true | _ => false) = true) : ∃ cs, v = .agg ⟨cs⟩ := by
 unfold Value.okWide at hv
 split at hv
 all_goals first
  | (rename_i hu; rw [hu] at h; cases h; done)
  | (cases v with
   | agg cs => exact ⟨cs.toList, rfl⟩
   | _ => simp_all)
theorem rep_arg {TS : List TypeId} (hT : plainB P TS = true) {t : TypeId} {v : Value} {d : DataW H} {ps : List MemPlace} (ht : t ∈ TS) (h : DataW.Trod enc P W base sp held t v d ps) : ∃ fuel ls, RepF (hG W) ls v.cells.toList ∧ Lv P fuel t ls := by
 obtain ⟨fuel, hf⟩ := h
 obtain ⟨ls, h1, h2⟩ := trod_lv hT fuel t _ _ ht hf
 exact ⟨fuel, ls, h1, h2⟩
end
end Go.Proofs.YtknhbphhdfknaaaGreatDoor
