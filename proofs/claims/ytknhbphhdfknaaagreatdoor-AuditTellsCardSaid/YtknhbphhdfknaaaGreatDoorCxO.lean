import Derived.Test.YtknhbphhdfknaaaGreatDoorCxN
import Derived.Laws.StructEq
set_option linter.unusedVariables false
set_option linter.unusedSimpArgs false
namespace Go.Proofs.YtknhbphhdfknaaaGreatDoor
open Go.RowKit
inductive SC where
 | num (k : IntKind) (a b : Int)
 | flg (a b : Bool)
 | txt (a b : ByteArray)
def SC.l : SC → Value
 | .num k a _ => .int k a
 | .flg a _ => .bool a
 | .txt a _ => .string a
def SC.r : SC → Value
 | .num k _ b => .int k b
 | .flg _ b => .bool b
 | .txt _ b => .string b
def SC.e : SC → Bool
 | .num _ a b => decide (a = b)
 | .flg a b => a == b
 | .txt a b => decide (a = b)
def SC.k : SC → Nat
 | .num _ _ _ => 0
 | .flg _ _ => 1
 | .txt _ _ => 2
def SC.t (P : Program) (t : TypeId) : Nat → Bool
 | 0 => match P.underlying t with | some (.int _) => true | _ => false
 | 1 => match P.underlying t with | some .bool => true | _ => false
 | _ => match P.underlying t with | some .string => true | _ => false
def scOk (T : Tab) (P : Program) : List Field → Nat → List Nat → Bool
 | [], _, [] => true
 | f :: fs, o, c :: cs => f.name != "_" && Nat.beq f.offset o && (match lst T.ty f.type with | some (1, false) => true | _ => false) && SC.t P f.type c && scOk T P fs (o + 1) cs
 | _, _, _ => false
def scE : List SC → Bool
 | [] => true
 | [c] => c.e
 | c :: cs => c.e && scE cs
theorem scE_cons (c : SC) (cs : List SC) : scE (c :: cs) = (c.e && scE cs) := by
 cases cs <;> simp [scE]
section
variable {T : Tab} {P : Program} {n : Nat} {e : EL} {C : World → Prop} {x y : Operand} {t yt : Nat}
theorem eq_sc {w : World} (d : Nat) {t : Nat} {c : SC} (h : SC.t P t c.k = true) : (Op.equalIn (d + 1) t c.l c.r).run P w = .ok c.e w := by
 cases c with
 | num k a b =>
  simp only [SC.t, SC.k] at h
  split at h
  · rename_i k' hk
    rw [SC.l, SC.r, run_equalIn_int w d t k k' a b hk]
    simp only [SC.e]
    by_cases hab : a = b <;> simp [hab]
  · cases h
 | flg a b =>
  simp only [SC.t, SC.k] at h
  split at h
  · rename_i hk; exact run_equalIn_bool' w d t a b hk
  · cases h
 | txt a b =>
  simp only [SC.t, SC.k] at h
  split at h
  · rename_i hk
    rw [SC.l, SC.r, run_equalIn_string w d t a b hk]
    simp only [SC.e]
    have : (a.toList == b.toList) = decide (a = b) := by
     rw [ByteArray.toList_eq, ByteArray.toList_eq]
     obtain ⟨⟨x⟩⟩ := a
     obtain ⟨⟨y⟩⟩ := b
     by_cases h : x = y
     · subst h; simp
     · have h1 : (x == y) = false := by simpa using h
       have h2 : ¬ ((⟨⟨x⟩⟩ : ByteArray) = ⟨⟨y⟩⟩) := fun hh => h (by injection hh with hh; injection hh)
       simp [h1, h2]
    rw [this]
  · cases h
theorem part_cell (hT : T.Ok P) {te : Nat} {xs : Array Value} {o : Nat} {v : Value} {w : World} (ht : lst T.ty te = some (1, false)) (hv : xs[o]? = some v) : (part te xs o).run P w = .ok v w := by
 obtain ⟨hs, ha⟩ := hT.ty _ (lst_mem ht)
 dsimp only at hs ha
 unfold part
 simp only [Sem.run_bind, run_agg ha, Result.andThen_ok, hv]
 rfl
theorem eq_fields (hT : T.Ok P) {w : World} (d : Nat) : ∀ (cs : List SC) (fs : List Field) (p q : List Value), p.length = q.length → scOk T P fs p.length (cs.map SC.k) = true → (Op.eqFields (d + 1) ⟨p ++ cs.map SC.l⟩ ⟨q ++ cs.map SC.r⟩ fs).run P w = .ok (scE cs) w
 | [], fs, p, q, hl, h => by
  cases fs with
  | nil => rfl
  | cons f fs => simp [scOk] at h
 | c :: cs, fs, p, q, hl, h => by
  cases fs with
  | nil => simp [scOk] at h
  | cons f fs =>
   simp only [List.map_cons, scOk, Bool.and_eq_true, bne_iff_ne, ne_eq] at h
   obtain ⟨⟨⟨⟨h1, h2⟩, h3⟩, h4⟩, h5⟩ := h
   have h2 := Nat.eq_of_beq_eq_true h2
   have h3 : lst T.ty f.type = some (1, false) := by
    split at h3
    · assumption
    · cases h3
   have hx : (⟨p ++ (c :: cs).map SC.l⟩ : Array Value)[f.offset]? = some c.l := by rw [h2]; simp
   have hy : (⟨q ++ (c :: cs).map SC.r⟩ : Array Value)[f.offset]? = some c.r := by rw [h2, hl]; simp
   have ih := eq_fields hT (w := w) d cs fs (p ++ [c.l]) (q ++ [c.r]) (by simp [hl]) (by simpa using h5)
   unfold Op.eqFields
   rw [if_pos h1]
   simp only [Sem.run_bind, part_cell hT h3 hx, part_cell hT h3 hy, Result.andThen_ok, eq_sc d h4]
   rw [scE_cons]
   cases hc : c.e with
   | false => simp
   | true =>
    simp only [Bool.not_true, Bool.false_eq_true, if_false, Bool.true_and]
    simpa using ih
structure StEq (T : Tab) (P : Program) (t : Nat) (ks : List Nat) : Prop where
 hu : P.underlying t = some (.struct (P.fieldsOf t))
 hp : P.stoodInHeld t = false
 hm : P.eqGuardType P.depth t = false
 hk : scOk T P (P.fieldsOf t).toList 0 ks = true
theorem eq_agg (hT : T.Ok P) {w : World} {t : Nat} {ks : List Nat} (hS : StEq T P t ks) (cs : List SC) (hk : cs.map SC.k = ks) :
 (Op.equalIn 10000 t (.agg ⟨cs.map SC.l⟩) (.agg ⟨cs.map SC.r⟩)).run P w = .ok (scE cs) w := by
 subst hk
 rw [run_equalIn_struct w 9999 t _ _ hS.hu hS.hp]
 exact eq_fields hT (w := w) 9998 cs _ [] [] rfl hS.hk
theorem f_eqs (hT : T.Ok P) {ks : List Nat} (hS : StEq T P t ks) (cs : List SC) (hk : cs.map SC.k = ks) (hx : ev e x = some (.agg ⟨cs.map SC.l⟩)) (hy : ev e y = some (.agg ⟨cs.map SC.r⟩)) :
 RT P n e C (.binOp .eql t x y yt) (.bool (scE cs)) := by
 intro a w dst ty ps af g hE hC
 have hb : (binOp .eql t (.agg ⟨cs.map SC.l⟩) (.agg ⟨cs.map SC.r⟩)).run P w = .ok (.bool (scE cs)) w := by
  rw [run_eql_struct, eq_agg hT hS cs hk]; rfl
 simp [execOp, hE.eval hx, hE.eval hy, run_eqGuard_agg _ _ _ _ _ _ _ hS.hm, hb]
theorem f_nes (hT : T.Ok P) {ks : List Nat} (hS : StEq T P t ks) (cs : List SC) (hk : cs.map SC.k = ks) (hx : ev e x = some (.agg ⟨cs.map SC.l⟩)) (hy : ev e y = some (.agg ⟨cs.map SC.r⟩)) :
 RT P n e C (.binOp .neq t x y yt) (.bool (!scE cs)) := by
 intro a w dst ty ps af g hE hC
 have hb : (binOp .neq t (.agg ⟨cs.map SC.l⟩) (.agg ⟨cs.map SC.r⟩)).run P w = .ok (.bool (!scE cs)) w := by
  rw [run_neq_struct, eq_agg hT hS cs hk]; rfl
 simp [execOp, hE.eval hx, hE.eval hy, run_eqGuard_agg _ _ _ _ _ _ _ hS.hm, hb]
end
end Go.Proofs.YtknhbphhdfknaaaGreatDoor
