import Derived.Test.YtknhbphhdfknaaaGreatDoorCxO
set_option linter.unusedVariables false
set_option linter.unusedSimpArgs false
namespace Go.Proofs.YtknhbphhdfknaaaGreatDoor
open Go.RowKit
section
variable {T : Tab} {P : Program} {n : Nat} {ops : Array Oper} {Q : Exit → Act → World → Prop} {w w0 : World} {G0 G : GH} {D0 : List Nat} {L : List Rs} {e : EL} {a : Act} {rest : List Oper} {C : World → Prop}
variable {d ty t yt : Nat} {ps : String} {af : Array Edge} {g : Option (Nat × Bool)} {x y : Operand} {f : Nat} {args : List Operand} {ats : Array TypeId} {vs : List Value} {S : GH → List Rs → Value → Prop} {v V : Value}
theorem s_callN (j : Nat) (hcl : Callable P f) (hI : Inv w0 G0 D0 G L w) (hE : Env a n e) (hg : gd ops e g = some true) (hv : evs e args = some vs)
 (hc : Inv w G (feet (L.take j)) G (L.take j) w → Calls P f ⟨vs⟩ w (Ret w G (feet (L.take j)) S)) (hd : Nat.blt d n = true)
 (k : ∀ a' w' v G' L', S G' L' v → G.le G' → Inv w0 G0 D0 G' (L' ++ L.drop j) w' → Env a' n ((d, v) :: e) → wpList P ops Q rest a' w') :
 wpList P ops Q (⟨some d, .call ⟨.value (.func f), ⟨args⟩, ats⟩, ty, ps, af, g⟩ :: rest) a w :=
 s_callM (L.take j) (L.drop j) hcl (by rw [List.take_append_drop]; exact hI) hE hg hv hc hd k
theorem s_callNV (j : Nat) {cap : List Value} (hcl : Callable P f) (hI : Inv w0 G0 D0 G L w) (hE : Env a n e) (hg : gd ops e g = some true) (hx : ev e x = some (.func (.func f) #[] ⟨cap⟩)) (hv : evs e args = some vs)
 (hc : Inv w G (feet (L.take j)) G (L.take j) w → Calls P f ⟨vs ++ cap⟩ w (Ret w G (feet (L.take j)) S)) (hd : Nat.blt d n = true)
 (k : ∀ a' w' v G' L', S G' L' v → G.le G' → Inv w0 G0 D0 G' (L' ++ L.drop j) w' → Env a' n ((d, v) :: e) → wpList P ops Q rest a' w') :
 wpList P ops Q (⟨some d, .call ⟨.value x, ⟨args⟩, ats⟩, ty, ps, af, g⟩ :: rest) a w := by
 refine wpList_do (gd_wanted hE hg) ?_
 unfold Oper.wp
 rw [enterV_run hcl hE hx hv]
 have hI' : Inv w0 G0 D0 G (L.take j ++ L.drop j) w := by rw [List.take_append_drop]; exact hI
 refine (hc hI'.pass).mono ?_
 rintro e' w' ⟨v, G', L', rfl, hJ, hs⟩
 exact k _ _ _ _ _ hs hJ.le (hI'.back hJ) (hE.put hd _)
def enum : Nat → List Value → EL
 | _, [] => []
 | i, v :: l => (i, v) :: enum (i + 1) l
theorem enum_eq (l : List Value) (i : Nat) : enum i l = (List.range' i l.length).zip l := by
 induction l generalizing i with
 | nil => rfl
 | cons v l ih => simp [enum, List.range'_succ, ih]
theorem calls_in (m : Nat) {fn : Func} {c : Code} {E : Ending → World → Prop} (hf : P.funcs[f]? = some fn) (hb : fn.body = some c) (hn : fn.ntmps = m) (hm : Nat.ble vs.length m = true)
 (h : ∀ a, Env a m (enum 0 vs) → c.wp P (bodyPost P fn E) a w) : Calls P f ⟨vs⟩ w E := by
 subst hn
 have hl : vs.length ≤ fn.ntmps := Nat.ble_eq.mp hm
 refine calls_of_wp hf hb (h _ ?_)
 have := Env.start ⟨vs⟩ (fn.ntmps - vs.length)
 simp only [List.size_toArray] at this
 rw [show vs.length + (fn.ntmps - vs.length) = fn.ntmps by omega, List.range_eq_range', ← enum_eq] at this
 exact this
def sl (e : EL) : List Nat → EL → EL
 | [], x => x
 | t :: r, x => (t, (lk e t).getD undef) :: sl e r x
def nt : List Rs → Nat → Rs
 | [], _ => .blk 0 [] 0
 | x :: _, 0 => x
 | _ :: l, i + 1 => nt l i
def lks (e : EL) : EL → List (Option Value)
 | [] => []
 | (k, _) :: r => lk e k :: lks e r
def vls : EL → List (Option Value)
 | [] => []
 | (_, v) :: r => some v :: vls r
theorem lks_all {e : EL} : ∀ {e' : EL}, lks e e' = vls e' → AllLk e e'
 | [], _ => trivial
 | (k, v) :: r, h => by
  simp only [lks, vls, List.cons.injEq] at h
  exact ⟨h.1, lks_all h.2⟩
theorem Env.kp {e' : EL} (h : Env a n e) (k : lks e e' = vls e') : Env a n e' := h.keep (lks_all k)
theorem c_cutE {x : Code} {Q : Exit → Act → World → Prop} (hE : Env a n e) (hI : Inv w0 G0 D0 G L w) (M : EL → List Rs → Act → World → Prop) (h : x.wp P (Exit.then (M e L) Q) a w) (k : ∀ a w, M e L a w → Q .normal a w) : x.wp P Q a w :=
 c_cut (M e L) h k
theorem c_loopE {c : Code} {Q : Exit → Act → World → Prop} (hE : Env a n e) (hI : Inv w0 G0 D0 G L w) (I : EL → List Rs → Nat → Act → World → Prop) (n₀ : Nat) (h₀ : I e L n₀ a w)
 (round : ∀ n a w, I e L n a w → c.wp P (Exit.then (fun a' w' => ∃ n', n' < n ∧ I e L n' a' w') Q) a w) : (Code.loop c).wp P Q a w :=
 wp_loop_ghost (I e L) n₀ h₀ round
theorem c_labelE {c R : Code} {l : Nat} {Q : Exit → Act → World → Prop} (hE : Env a n e) (hI : Inv w0 G0 D0 G L w) (I : EL → List Rs → Nat → Act → World → Prop) (m : Nat) (hf : findLabel c l = some (.seq .skip R)) (h₀ : I e L m a w)
 (pass : ∀ n a w, I e L n a w → R.wp P (Exit.jump l (fun a' w' => ∃ n', n' < n ∧ I e L n' a' w') Q) a w) :
 (Code.seq (.label l) R).wp P (Exit.jump l (OkS P c (.seq .skip R) Q) Q) a w := c_label (I e L) m hf h₀ pass
theorem c_mixE {id : Nat} {ops : Array Oper} {Q : Exit → Act → World → Prop} (is ds : List Nat) (ord : Ord) {Ls : List Rs} (hm : P.follows .mixedOrders = true) (hB : (Region.noSelect ops && Nat.beq ord.len ops.size && mixB .any ops ds false ord (Array.replicate ops.size false)) = true) (hI : Inv w0 G0 D0 G L w)
 (hn : is.Nodup) (hp : pickL is L = some Ls) (h : ∀ w, Inv w0 G0 D0 G L w → Sw G Ls w → wpMix P ops (NoPanic Q) (Sw G Ls) ord a w) : (Code.region id ops true).wp P Q a w :=
 c_mix ds ord Ls hm hB hI fun w hI => h w hI (hI.sw is hn hp (GH.le.refl _))
theorem d_nextE {S : World → Prop} {ord : Ord} (hS : S w) (h : S w → wpMix P ops Q S ord a w) : wpList P ops (QN fun a' w' => S w' ∧ wpMix P ops Q S ord a' w') [] a w := ⟨hS, h hS⟩
end
end Go.Proofs.YtknhbphhdfknaaaGreatDoor
