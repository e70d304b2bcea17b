import Derived.Test.YtknhbphhdfknaaaGreatDoorMb
set_option linter.unusedVariables false
set_option linter.unusedSimpArgs false
namespace Go.Proofs.YtknhbphhdfknaaaGreatDoor
open Go.RowKit
theorem RO.mkB {ps : List Pl} {T b : Nat} {l : List AV} {cs : List Value} (h : RVs ps l cs) : RO ps (.blk T l) (.blk b cs T) := ⟨rfl, h⟩
theorem RO.mkR {ps : List Pl} {te s n : Nat} {A : Option Addr} {c : Nat} {l : List AV} {cs : List Value} (h : RVs ps l cs) : RO ps (.row te s n l) (.row (.slice A n c) te s n cs) := ⟨rfl, rfl, rfl, ⟨A, c, rfl⟩, h⟩
theorem RO.mkM {ps : List Pl} {m cl : Nat} {kvs : List (ByteArray × Int)} {es : Array MapEntry} (h : RM (fun _ => none) false D.str (D.int .i64) kvs es.toList) : RO ps (.mp kvs) (.map m es cl) := h
noncomputable def dead : Rs := .rows 0 0 []
section
variable {w0 w w' : World} {G0 G : GH} {D0 : List Nat} {L : List Rs} {H : Trie AO} {sz : Nat}
theorem Inv.addDead (h : Inv w0 G0 D0 G L w) : Inv w0 G0 D0 G (dead :: L) w :=
 ⟨h.os, h.tape, h.output, h.size, h.fr, h.le, h.fresh, h.inG, fun r hr => by
  rcases List.mem_cons.1 hr with rfl | hr
  · exact ⟨by simp, .nil⟩
  · exact h.ok r hr, fun r hr b hb => by
  rcases List.mem_cons.1 hr with rfl | hr
  · simp [dead, Rs.foot] at hb
  · exact h.sep r hr b hb, List.pairwise_cons.2 ⟨fun s hs b hb => by simp [dead, Rs.foot] at hb, h.dis⟩⟩
theorem set_split {α : Type} {L : List α} {i : Nat} (hi : i < L.length) (r : α) : L.set i r = L.take i ++ r :: L.drop (i + 1) := by
 rw [List.set_eq_take_append_cons_drop, if_pos hi]
theorem Inv.kill {i : Nat} {r : Rs} (hi : i < L.length) (h : Inv w0 G0 D0 G (L.set i r) w) : Inv w0 G0 D0 G (L.set i dead ++ [r]) w := by
 refine h.addDead.perm ?_
 rw [set_split hi, set_split hi]
 have h1 : (L.take i ++ dead :: L.drop (i + 1) ++ [r]).Perm (r :: dead :: (L.take i ++ L.drop (i + 1))) :=
  (List.perm_append_singleton r _).trans (List.Perm.cons r List.perm_middle)
 have h2 : (dead :: (L.take i ++ r :: L.drop (i + 1))).Perm (dead :: r :: (L.take i ++ L.drop (i + 1))) := List.Perm.cons dead List.perm_middle
 exact h1.trans ((List.Perm.swap _ _ _).trans h2.symm)
theorem Inv.last {r : Rs} (h : Inv w0 G0 D0 G (r :: L) w) : Inv w0 G0 D0 G (L ++ [r]) w := h.perm (List.perm_append_singleton r L)
theorem ext_app (L : List Rs) (s : Rs) : Ext (L.map Rs.pl) ((L ++ [s]).map Rs.pl) := fun i p hp => .inl (by
 have hi : i < (L.map Rs.pl).length := (List.getElem?_eq_some_iff.1 hp).1
 rw [List.map_append, List.getElem?_append_left hi]; exact hp)
theorem HS.new (h : HS H sz L) {o : AO} {s : Rs} (k : RO ((L ++ [s]).map Rs.pl) o s) : HS (Trie.set 40 H sz o) (sz + 1) (L ++ [s]) := by
 refine ⟨by simp [h.len], fun i o' hi => ?_⟩
 rcases Trie.get_set _ _ _ _ _ _ hi with ⟨rfl, rfl⟩ | ⟨h1, h2⟩
 · exact ⟨s, by rw [← h.len]; simp, k⟩
 · obtain ⟨s', h3, h4⟩ := h.obj i o' h2
   have hlt : i < L.length := (List.getElem?_eq_some_iff.1 h3).1
   exact ⟨s', by rw [List.getElem?_append_left hlt]; exact h3, h4.mono (ext_app L s)⟩
theorem pl_set {i : Nat} {s s' : Rs} (hL : L[i]? = some s) (hp : s'.pl = s.pl) : (L.set i s').map Rs.pl = L.map Rs.pl := by
 rw [List.map_set, hp]
 obtain ⟨hi, he⟩ := List.getElem?_eq_some_iff.1 hL
 rw [← he]
 have : (L.map Rs.pl)[i]'(by simpa using hi) = L[i].pl := by simp
 rw [← this]; exact List.set_getElem_self _
theorem HS.upd (h : HS H sz L) {i : Nat} {s s' : Rs} {o : AO} (hL : L[i]? = some s) (hp : s'.pl = s.pl) (k : RO (L.map Rs.pl) o s') : HS (Trie.set 40 H i o) sz (L.set i s') := by
 refine ⟨by simp [h.len], fun j o' hj => ?_⟩
 rw [pl_set hL hp]
 have hi : i < L.length := (List.getElem?_eq_some_iff.1 hL).1
 rcases Trie.get_set _ _ _ _ _ _ hj with ⟨rfl, rfl⟩ | ⟨h1, h2⟩
 · exact ⟨s', by simp [hi], k⟩
 · obtain ⟨q, h3, h4⟩ := h.obj j o' h2
   exact ⟨q, by rw [List.getElem?_set_ne (Ne.symm h1)]; exact h3, h4⟩
theorem ext_kill {i : Nat} {s : Rs} (hL : L[i]? = some s) (hs : ∃ A c, s.pl = .row A c) (r : Rs) : Ext (L.map Rs.pl) ((L.set i dead ++ [r]).map Rs.pl) := fun j p hp => by
 have hj : j < L.length := by simpa using (List.getElem?_eq_some_iff.1 hp).1
 rw [List.map_append, List.getElem?_append_left (by simpa using hj), List.map_set]
 by_cases e : i = j
 · subst e
   right
   refine ⟨?_, by simp [hj, dead, Rs.pl]⟩
   obtain ⟨A, c, hs⟩ := hs
   refine ⟨A, c, ?_⟩
   simp [hL, hs] at hp
   exact hp.symm
 · left
   rw [List.getElem?_set_ne e]; exact hp
theorem HS.kill (h : HS H sz L) {i : Nat} {s s' : Rs} {o : AO} (hL : L[i]? = some s) (hs : ∃ A c, s.pl = .row A c) (k : RO ((L.set i dead ++ [s']).map Rs.pl) o s') : HS (Trie.set 40 (Trie.set 40 H i .gone) sz o) (sz + 1) (L.set i dead ++ [s']) := by
 have hi : i < L.length := (List.getElem?_eq_some_iff.1 hL).1
 refine ⟨by simp [h.len], fun j o' hj => ?_⟩
 rcases Trie.get_set _ _ _ _ _ _ hj with ⟨rfl, rfl⟩ | ⟨h1, h2⟩
 · exact ⟨s', by rw [← h.len]; simp, k⟩
 · rcases Trie.get_set _ _ _ _ _ _ h2 with ⟨rfl, rfl⟩ | ⟨h3, h4⟩
   · exact ⟨dead, by rw [List.getElem?_append_left (by simpa using hi)]; simp [hi], by simp only [RO]⟩
   · obtain ⟨q, h5, h6⟩ := h.obj j o' h4
     have hj : j < L.length := (List.getElem?_eq_some_iff.1 h5).1
     exact ⟨q, by rw [List.getElem?_append_left (by simpa using hj), List.getElem?_set_ne (Ne.symm h3)]; exact h5, h6.mono (ext_kill hL hs s')⟩
theorem frame_app (L : List Rs) (s : Rs) (j : Nat) (hj : j < L.length) : (L ++ [s])[j]? = L[j]? := List.getElem?_append_left hj
end
noncomputable def partsA (E : Trie AV) (sz : Nat) : Nat → List (Nat × Operand) → Option (List AV)
 | _, [] => some []
 | i, (j, x) :: l => match Nat.beq i j, evA E x, partsA E sz (i + 1) l with
  | true, some v, some r => match cellsA v with
   | some c => bif Nat.beq c.length sz then some (c ++ r) else none
   | none => none
  | _, _, _ => none
theorem parts_of {E : Trie AV} {e : EL} {ps : List Pl} (h : ES E e ps) {sz : Nat} : ∀ {l : List (Nat × Operand)} {i : Nat} {cs : List AV}, partsA E sz i l = some cs → ∃ rs, parts e sz i l = some rs ∧ RVs ps cs rs
 | [], i, cs, hp => by simp only [partsA, Option.some.injEq] at hp; subst hp; exact ⟨[], rfl, RVs.nil⟩
 | (j, x) :: l, i, cs, hp => by
  simp only [partsA] at hp
  split at hp
  · rename_i v r h1 h2 h3
    split at hp
    · rename_i c hc
      obtain ⟨hb, rfl⟩ := cnd hp
      obtain ⟨q, h4, h5⟩ := ev_of h h2
      obtain ⟨qs, h6, h7⟩ := h5.cells hc
      obtain ⟨rs, h8, h9⟩ := parts_of h h3
      exact ⟨qs ++ rs, by simp only [parts, h1, h4, h8, h6, h7.len, hb, cond_true], h7.app h9⟩
    · cases hp
  · cases hp
structure Out where
 v : Option AV
 H : Trie AO
 sz : Nat
 wr : List Nat
noncomputable def eBox1 (H : Trie AO) (sz t : Nat) : Option (List AV) → Option Out
 | some cs => some ⟨some (.ptr sz 0), Trie.set 40 H sz (.blk t cs), sz + 1, []⟩
 | none => none
noncomputable def eBox (H : Trie AO) (sz t : Nat) : Option AV → Option Out
 | some v => eBox1 H sz t (cellsA v)
 | none => none
noncomputable def eAl1 (H : Trie AO) (sz t : Nat) : Option (List Value) → Option Out
 | some cs => some ⟨some (.ptr sz 0), Trie.set 40 H sz (.blk t (cs.map .dat)), sz + 1, []⟩
 | none => none
noncomputable def eAl (H : Trie AO) (sz t : Nat) : Option Value → Option Out
 | some z => eAl1 H sz t (vcells z)
 | none => none
noncomputable def eBs1 (H : Trie AO) (sz te s m : Nat) : Option (List AV) → Option Out
 | some cs => some ⟨some (.sl sz 0 m s), Trie.set 40 H sz (.row te s m cs), sz + 1, []⟩
 | none => none
noncomputable def eBs (P : Program) (E : Trie AV) (H : Trie AO) (sz t m : Nat) (l : List (Nat × Operand)) : Option (Nat × Nat × Bool) → Option Out
 | some (te, s, _) => bif chkApp P t te s && Nat.beq l.length m && Nat.ble (m * s) 16777216 then eBs1 H sz te s m (partsA E s 0 l) else none
 | none => none
noncomputable def eMk1 (P : Program) (H : Trie AO) (sz t te m m' : Nat) (k k' : IntKind) : Option Value → Option Out
 | some z => bif chkApp P t te 1 && one1 z && Nat.beq m m' && keq k k' && Nat.ble m 100000 then some ⟨some (.sl sz 0 m 1), Trie.set 40 H sz (.row te 1 m (List.replicate m (.dat z))), sz + 1, []⟩ else none
 | none => none
noncomputable def eMk (P : Program) (H : Trie AO) (sz t : Nat) : Option (Nat × Nat × Bool) → Option AV → Option AV → Option Out
 | some (te, 1, _), some (.dat (.int k (.ofNat m))), some (.dat (.int k' (.ofNat m'))) => eMk1 P H sz t te m m' k k' ((P.info? te).bind (·.zero))
 | _, _, _ => none
noncomputable def eAp2 (H : Trie AO) (sz te s m lo i n s2 : Nat) (lj : List AV) : Option AO → Option Out
 | some (.row te' s3 n' l) => bif Nat.blt 0 m && Nat.ble (lo * s + m * s) lj.length && ((lj.drop (lo * s)).take (m * s)).all oneA && Nat.ble (n + m) 4294967296 && Nat.beq te te' && Nat.beq s s3 && Nat.beq n n' && Nat.beq s s2 then
  some ⟨some (.sl sz 0 (n + m) s), Trie.set 40 (Trie.set 40 H i .gone) sz (.row te s (n + m) (l ++ (lj.drop (lo * s)).take (m * s))), sz + 1, [i]⟩ else none
 | _ => none
noncomputable def eAp1 (H : Trie AO) (sz te s m lo : Nat) (lj : List AV) : AV → Option Out
 | .dat (.slice none 0 0) => bif Nat.blt 0 m && Nat.ble (lo * s + m * s) lj.length && ((lj.drop (lo * s)).take (m * s)).all oneA && Nat.ble m 4294967296 then
  some ⟨some (.sl sz 0 m s), Trie.set 40 H sz (.row te s m ((lj.drop (lo * s)).take (m * s))), sz + 1, []⟩ else none
 | .sl i 0 n s2 => eAp2 H sz te s m lo i n s2 lj (H.get i)
 | _ => none
noncomputable def eAp0 (H : Trie AO) (sz te s m lo : Nat) (vx : AV) : Option AO → Option Out
 | some (.row _ _ _ lj) => eAp1 H sz te s m lo lj vx
 | _ => none
noncomputable def eAn2 (P : Program) (H : Trie AO) (sz t te s i n s2 : Nat) : Option AO → Option Out
 | some (.row _ _ n' _) => bif chkApp P t te s && Nat.beq n n' then some ⟨some (.sl i 0 n s2), H, sz, []⟩ else none
 | _ => none
noncomputable def eAn1 (P : Program) (H : Trie AO) (sz t te s : Nat) : AV → Option Out
 | .dat (.slice none 0 0) => bif chkApp P t te s then some ⟨some (.dat (.slice none 0 0)), H, sz, []⟩ else none
 | .sl i 0 n s2 => eAn2 P H sz t te s i n s2 (H.get i)
 | _ => none
noncomputable def eAp (P : Program) (H : Trie AO) (sz t : Nat) : Option (Nat × Nat × Bool) → Option AV → Option AV → Option Out
 | some (te, s, _), some vx, some (.sl j lo m s') => bif chkApp P t te s && Nat.beq s s' then eAp0 H sz te s m lo vx (H.get j) else none
 | some (te, s, _), some vx, some (.dat (.slice none 0 0)) => eAn1 P H sz t te s vx
 | _, _, _ => none
noncomputable def sCells (s : ByteArray) : List AV := (Lib.strCells s).map .dat
noncomputable def eAs2 (H : Trie AO) (sz te i n : Nat) (s : ByteArray) : Option AO → Option Out
 | some (.row te' 1 n' l) => bif Nat.ble (n + s.size) 4294967296 && Nat.beq te te' && Nat.beq n n' then some ⟨some (.sl sz 0 (n + s.size) 1), Trie.set 40 (Trie.set 40 H i .gone) sz (.row te 1 (n + s.size) (l ++ sCells s)), sz + 1, [i]⟩ else none
 | _ => none
noncomputable def eAs1 (H : Trie AO) (sz te : Nat) (s : ByteArray) : AV → Option Out
 | .dat (.slice none 0 0) => bif Nat.ble s.size 4294967296 then some ⟨some (.sl sz 0 s.size 1), Trie.set 40 H sz (.row te 1 s.size (sCells s)), sz + 1, []⟩ else none
 | .sl i 0 n 1 => eAs2 H sz te i n s (H.get i)
 | _ => none
noncomputable def byteB (P : Program) (te : Nat) : Bool := match P.info? te with
 | some i => Nat.beq i.bytes 1 && (match i.zero with | some (.int .u8 0) => true | _ => false)
 | none => false
noncomputable def eAs (P : Program) (H : Trie AO) (sz t t' : Nat) : Option (Nat × Nat × Bool) → Option AV → Option AV → Option Out
 | some (te, 1, _), some vx, some (.dat (.string s)) => bif chkApp P t te 1 && isTy P t' (fun | .string => true | _ => false) && byteB P te && Nat.blt 0 s.size then eAs1 H sz te s vx else none
 | _, _, _ => none
noncomputable def bytesU : List AV → Option (List UInt8)
 | [] => some []
 | .dat (.int .u8 (.ofNat k)) :: l => match bytesU l with
  | some r => bif Nat.blt k 256 then some (UInt8.ofNat k :: r) else none
  | none => none
 | _ => none
noncomputable def eUs3 (H : Trie AO) (sz i m : Nat) : Option (List UInt8) → Option Out
 | some l => bif Nat.beq l.length m then some ⟨some (.dat (.string ⟨⟨l⟩⟩)), Trie.set 40 H i .gone, sz, [i]⟩ else none
 | none => none
noncomputable def eUs2 (P : Program) (H : Trie AO) (sz pt i m : Nat) : Option AO → Option Out
 | some (.row te 1 n' l) => bif Nat.beq n' m && isTy P pt (fun | .pointer e => Nat.beq e te | _ => false) && Nat.beq (P.cellsOf te) 1 && Nat.blt 0 m then eUs3 H sz i m (bytesU l) else none
 | _ => none
noncomputable def eUs (P : Program) (H : Trie AO) (sz pt : Nat) : Option AV → Option AV → Option Out
 | some (.pel i 0), some (.dat (.int .i64 (.ofNat m))) => eUs2 P H sz pt i m (H.get i)
 | _, _ => none
noncomputable def eCall (T : Tab) (P : Program) (E : Trie AV) (H : Trie AO) (sz : Nat) : Callee → List Operand → List TypeId → Option Out
 | .builtin .append, [x, y], [t, t'] => bif Nat.beq t t' then eAp P H sz t (lst T.sl t) (evA E x) (evA E y) else eAs P H sz t t' (lst T.sl t) (evA E x) (evA E y)
 | .builtin .unsafeString, [x, y], [pt, _] => eUs P H sz pt (evA E x) (evA E y)
 | _, _, _ => none
noncomputable def efA (T : Tab) (P : Program) (E : Trie AV) (H : Trie AO) (sz : Nat) : Op → Option Out
 | .box t x => eBox H sz t (evA E x)
 | .alloc t => eAl H sz t ((P.info? t).bind (·.zero))
 | .buildSlice t m ⟨l⟩ => eBs P E H sz t m l (lst T.sl t)
 | .makeSlice t x y => eMk P H sz t (lst T.sl t) (evA E x) (evA E y)
 | .makeMap t none => some ⟨some (.mp sz), Trie.set 40 H sz (.mp []), sz + 1, []⟩
 | .call c => eCall T P E H sz c.callee c.args.toList c.argTypes.toList
 | _ => none
noncomputable def eMm (H : Trie AO) (sz : Nat) : Option Operand → Option Out
 | none => some ⟨some (.mp sz), Trie.set 40 H sz (.mp []), sz + 1, []⟩
 | _ => none
noncomputable def efF (op : Op) : Tab → Program → Trie AV → Trie AO → Nat → Option Out := Op.rec (motive := fun _ => Tab → Program → Trie AV → Trie AO → Nat → Option Out)
 (fun _ _ _ _ _ _ => none)
 (fun _ _ _ _ _ _ => none)
 (fun _ _ _ _ _ _ _ _ => none)
 (fun a0 T P E H sz => eAl H sz a0 ((P.info? a0).bind (·.zero)))
 (fun a0 a1 T P E H sz => eBox H sz a0 (evF a1 E))
 (fun _ _ _ _ _ _ _ => none)
 (fun a0 a1 a2 T P E H sz => eBs P E H sz a0 a1 a2.toList (lst T.sl a0))
 (fun _ _ _ _ _ _ _ _ _ => none)
 (fun _ _ _ _ _ _ _ => none)
 (fun _ _ _ _ _ _ _ _ => none)
 (fun _ _ _ _ _ _ => none)
 (fun _ _ _ _ _ _ => none)
 (fun _ _ _ _ _ _ => none)
 (fun _ _ _ _ _ _ _ _ _ _ => none)
 (fun _ _ _ _ _ _ _ _ => none)
 (fun _ _ _ _ _ _ _ _ => none)
 (fun _ _ _ _ _ _ _ => none)
 (fun _ _ _ _ _ _ _ => none)
 (fun _ _ _ _ _ _ _ _ => none)
 (fun a0 a1 T P E H sz => eMm H sz a1)
 (fun _ _ _ _ _ _ _ => none)
 (fun a0 a1 a2 T P E H sz => eMk P H sz a0 (lst T.sl a0) (evF a1 E) (evF a2 E))
 (fun _ _ _ _ _ _ _ _ _ _ => none)
 (fun _ _ _ _ _ _ _ _ => none)
 (fun _ _ _ _ _ _ _ _ => none)
 (fun _ _ _ _ _ _ _ _ => none)
 (fun _ _ _ _ _ _ _ _ => none)
 (fun _ _ _ _ _ _ _ _ _ => none)
 (fun _ _ _ _ _ _ _ _ _ => none)
 (fun _ _ _ _ _ _ _ _ => none)
 (fun _ _ _ _ _ _ _ _ _ => none)
 (fun _ _ _ _ _ _ _ => none)
 (fun _ _ _ _ _ _ _ => none)
 (fun _ _ _ _ _ _ => none)
 (fun _ _ _ _ _ _ _ _ _ => none)
 (fun _ _ _ _ _ _ _ => none)
 (fun a0 T P E H sz => eCall T P E H sz a0.callee a0.args.toList a0.argTypes.toList)
 (fun _ _ _ _ _ _ => none)
 (fun _ _ _ _ _ _ => none)
 (fun _ _ _ _ _ _ => none)
 (fun _ _ _ _ _ _ _ => none)
 (fun _ _ _ _ _ _ _ _ => none)
 (fun _ _ _ _ _ _ _ => none) op
theorem efF_eq (T : Tab) (P : Program) (E : Trie AV) (H : Trie AO) (sz : Nat) (op : Op) : efF op T P E H sz = efA T P E H sz op := by
 cases op <;> try rfl
 rename_i t m; cases m <;> rfl
noncomputable def consO (v : AV) (x : Option (List AV)) : Option (List AV) := Option.rec (motive := fun _ => Option (List AV)) none (fun l => some (v :: l)) x
noncomputable def lay0 (l : List AV) : List AV → Option (List AV) := List.rec (motive := fun _ => List AV → Option (List AV)) (fun vs => List.rec (motive := fun _ => Option (List AV)) (some []) (fun _ _ _ => none) vs)
 (fun c r ih vs => List.rec (motive := fun _ => Option (List AV)) (some (c :: r)) (fun v vs' _ => consO v (ih vs')) vs) l
noncomputable def layF (l : List AV) : Nat → List AV → Option (List AV) := List.rec (motive := fun _ => Nat → List AV → Option (List AV)) (fun o vs => lay0 [] vs)
 (fun c r ih o vs => Nat.rec (motive := fun _ => Option (List AV)) (lay0 (c :: r) vs) (fun o' _ => consO c (ih o' vs)) o) l
theorem consO_eq {v : AV} {x : Option (List AV)} {r : List AV} (h : consO v x = some r) : ∃ l, x = some l ∧ r = v :: l := by
 cases x with
 | none => cases h
 | some l => exact ⟨l, rfl, (Option.some.inj h).symm⟩
theorem lay0_eq : ∀ {l vs r : List AV}, lay0 l vs = some r → vs.length ≤ l.length ∧ r = vs ++ l.drop vs.length
 | [], [], r, h => by cases h; exact ⟨Nat.le_refl _, rfl⟩
 | [], v :: vs, r, h => by cases (show none = some r from h)
 | c :: l, [], r, h => by cases h; exact ⟨Nat.zero_le _, rfl⟩
 | c :: l, v :: vs, r, h => by
  obtain ⟨q, h1, rfl⟩ := consO_eq (show consO v (lay0 l vs) = some r from h)
  obtain ⟨g1, g2⟩ := lay0_eq h1
  exact ⟨by simpa using g1, by rw [g2]; simp⟩
theorem layF_len : ∀ {l : List AV} {o : Nat} {vs r : List AV}, layF l o vs = some r → vs = [] ∨ (o + vs.length ≤ l.length ∧ r = l.take o ++ vs ++ l.drop (o + vs.length))
 | [], o, [], r, h => .inl rfl
 | [], o, v :: vs, r, h => by cases (show none = some r from h)
 | c :: l, 0, vs, r, h => by
  obtain ⟨g1, g2⟩ := lay0_eq (show lay0 (c :: l) vs = some r from h)
  exact .inr ⟨by omega, by rw [g2]; simp⟩
 | c :: l, o + 1, vs, r, h => by
  obtain ⟨q, h1, rfl⟩ := consO_eq (show consO c (layF l o vs) = some r from h)
  rcases layF_len h1 with g | ⟨g1, g2⟩
  · exact .inl g
  · refine .inr ⟨by simp; omega, ?_⟩
    rw [g2, show o + 1 + vs.length = (o + vs.length) + 1 by omega]; simp
theorem layF_sub {l vs r : List AV} {o : Nat} (h : layF l o vs = some r) (hv : vs ≠ []) : layA l o vs = some r := by
 rcases layF_len h with g | ⟨g1, g2⟩
 · exact absurd g hv
 · unfold layA; rw [Nat.ble_eq_true_of_le g1, g2]; rfl
noncomputable def oneF (v : AV) : Bool := AV.rec (motive_1 := fun _ => Bool) (motive_2 := fun _ => Unit) (fun v => one1 v) (fun _ _ => true) (fun _ _ => true) (fun _ _ _ _ => true) (fun _ => true) (fun _ _ => false) (fun _ _ => false) (fun _ _ _ => true) (fun _ _ _ => true) () (fun _ _ _ _ => ()) v
theorem oneF_eq (v : AV) : oneF v = oneA v := by cases v <;> rfl
noncomputable def wOne (H : Trie AO) (sz i T' : Nat) (l : Option (List AV)) : Option Out := Option.rec (motive := fun _ => Option Out) none (fun l' => some ⟨none, Trie.set 40 H i (.blk T' l'), sz, [i]⟩) l
noncomputable def wSt2 (H : Trie AO) (sz i T' : Nat) : Option (List AV) → Option Out
 | some l' => some ⟨none, Trie.set 40 H i (.blk T' l'), sz, [i]⟩
 | none => none
noncomputable def wSt1 (H : Trie AO) (sz s i o : Nat) : Option AO → Option (List AV) → Option Out
 | some (.blk T' l), some vs => bif vs.all oneA && Nat.beq vs.length s then wSt2 H sz i T' (layA l o vs) else none
 | _, _ => none
noncomputable def wSr2 (H : Trie AO) (sz i te es n q : Nat) (l : List AV) : Option (List AV) → Option Out
 | some ec => some ⟨none, Trie.set 40 H i (.row te es n (l.take q ++ ec ++ l.drop (q + ec.length))), sz, [i]⟩
 | none => none
noncomputable def wSr1 (H : Trie AO) (sz s i o : Nat) : Option AO → Option (List AV) → Option Out
 | some (.row te es n l), some vs => bif vs.all oneA && Nat.beq vs.length s && Nat.ble (o / es * es + es) l.length then wSr2 H sz i te es n (o / es * es) l (layA ((l.drop (o / es * es)).take es) (o - o / es * es) vs) else none
 | _, _ => none
noncomputable def wFast (H : Trie AO) (sz s i o : Nat) (v : AV) (u : Option AO) : Option Out := Option.rec (motive := fun _ => Option Out) none (fun u => AO.rec (motive := fun _ => Option Out) (fun T' l => Bool.rec (motive := fun _ => Option Out) (wSt1 H sz s i o (some (.blk T' l)) (cellsA v)) (wOne H sz i T' (layF l o [v])) (oneF v && Nat.beq s 1)) (fun _ _ _ _ => none) (fun _ => none) none u) u
theorem cells_one {v : AV} (h : oneA v = true) : cellsA v = some [v] := by
 cases v with
 | agg l => cases h
 | tup l => cases h
 | dat u => cases u <;> first | rfl | cases h
 | _ => rfl
theorem wFast_sub {H : Trie AO} {sz s i o : Nat} {v : AV} {u : Option AO} {r : Out} (h : wFast H sz s i o v u = some r) : wSt1 H sz s i o u (cellsA v) = some r := by
 obtain ⟨u, rfl, h⟩ := orec h
 cases u with
 | blk T' l =>
  have h : Bool.rec (motive := fun _ => Option Out) (wSt1 H sz s i o (some (.blk T' l)) (cellsA v)) (wOne H sz i T' (layF l o [v])) (oneF v && Nat.beq s 1) = some r := h
  cases hb : (oneF v && Nat.beq s 1) with
  | false => rw [hb] at h; exact h
  | true =>
   rw [hb] at h
   obtain ⟨l', h1, h2⟩ := orec (show wOne H sz i T' (layF l o [v]) = some r from h)
   simp only [Bool.and_eq_true] at hb
   obtain rfl := Nat.eq_of_beq_eq_true hb.2
   have h3 : oneA v = true := by rw [← oneF_eq]; exact hb.1
   rw [cells_one h3]
   unfold wSt1
   simp only [List.all_cons, List.all_nil, h3, Bool.and_self, List.length_cons, List.length_nil, cond_true, layF_sub h1 (by simp)]
   exact h2
 | _ => cases (show none = some r from h)
noncomputable def wSt (H : Trie AO) (sz : Nat) : Option (Nat × Bool) → Option AV → Option AV → Option Out
 | some (s, _), some (.ptr i o), some v => wSt1 H sz s i o (H.get i) (cellsA v)
 | some (s, _), some (.pel i o), some v => wSr1 H sz s i o (H.get i) (cellsA v)
 | _, _, _ => none
noncomputable def wMu1 (P : Program) (H : Trie AO) (sz i : Nat) (k : ByteArray) (v : Int) : Option AO → Option TypeDesc → Option Out
 | some (.mp kvs), some (.map kt vt) => bif isTy P kt (fun | .string => true | _ => false) then some ⟨none, Trie.set 40 H i (.mp (mput kvs k v)), sz, [i]⟩ else none
 | _, _ => none
noncomputable def wMu (P : Program) (H : Trie AO) (sz t : Nat) : Option AV → Option AV → Option AV → Option Out
 | some (.mp i), some (.dat (.string k)), some (.dat (.int .i64 v)) => wMu1 P H sz i k v (H.get i) (P.underlying t)
 | _, _, _ => none
noncomputable def wCl1 (H : Trie AO) (sz te i lo k : Nat) : Option AO → Option Value → Option Out
 | some (.row te' 1 m l), some z => bif one1 z && (Nat.beq te te' && Nat.ble (lo + k) m) then some ⟨none, Trie.set 40 H i (.row te' 1 m (l.take lo ++ (List.replicate k (.dat z) ++ l.drop (lo + k)))), sz, [i]⟩ else none
 | _, _ => none
noncomputable def wCl (P : Program) (H : Trie AO) (sz : Nat) : Option TypeDesc → Option AV → Option Out
 | some (.slice te), some (.sl i lo (k + 1) 1) => wCl1 H sz te i lo (k + 1) (H.get i) ((P.info? te).bind (·.zero))
 | _, _ => none
noncomputable def wCall (P : Program) (E : Trie AV) (H : Trie AO) (sz : Nat) : Callee → List Operand → List TypeId → Option Out
 | .builtin .clear, [x], [t] => wCl P H sz (P.underlying t) (evA E x)
 | _, _, _ => none
noncomputable def wrA (T : Tab) (P : Program) (E : Trie AV) (H : Trie AO) (sz : Nat) : Op → Option Out
 | .store t x y => wSt H sz (lst T.ty t) (evA E x) (evA E y)
 | .mapUpdate t x y z => wMu P H sz t (evA E x) (evA E y) (evA E z)
 | .call c => wCall P E H sz c.callee c.args.toList c.argTypes.toList
 | _ => none
noncomputable def wStF (H : Trie AO) (sz : Nat) (t : Option (Nat × Bool)) (x y : Option AV) : Option Out := match t, x, y with
 | some (s, _), some (.ptr i o), some v => wFast H sz s i o v (H.get i)
 | t, x, y => wSt H sz t x y
theorem wStF_sub {H : Trie AO} {sz : Nat} {t : Option (Nat × Bool)} {x y : Option AV} {r : Out} (h : wStF H sz t x y = some r) : wSt H sz t x y = some r := by
 unfold wStF at h
 split at h
 · exact wFast_sub h
 · exact h
noncomputable def wrF (op : Op) : Tab → Program → Trie AV → Trie AO → Nat → Option Out := Op.rec (motive := fun _ => Tab → Program → Trie AV → Trie AO → Nat → Option Out)
 (fun _ _ _ _ _ _ => none)
 (fun _ _ _ _ _ _ => none)
 (fun _ _ _ _ _ _ _ _ => none)
 (fun _ _ _ _ _ _ => none)
 (fun _ _ _ _ _ _ _ => none)
 (fun _ _ _ _ _ _ _ => none)
 (fun _ _ _ _ _ _ _ _ => none)
 (fun _ _ _ _ _ _ _ _ _ => none)
 (fun _ _ _ _ _ _ _ => none)
 (fun a0 a1 a2 T P E H sz => wStF H sz (lst T.ty a0) (evF a1 E) (evF a2 E))
 (fun _ _ _ _ _ _ => none)
 (fun _ _ _ _ _ _ => none)
 (fun _ _ _ _ _ _ => none)
 (fun _ _ _ _ _ _ _ _ _ _ => none)
 (fun _ _ _ _ _ _ _ _ => none)
 (fun _ _ _ _ _ _ _ _ => none)
 (fun _ _ _ _ _ _ _ => none)
 (fun _ _ _ _ _ _ _ => none)
 (fun _ _ _ _ _ _ _ _ => none)
 (fun _ _ _ _ _ _ _ => none)
 (fun _ _ _ _ _ _ _ => none)
 (fun _ _ _ _ _ _ _ _ => none)
 (fun _ _ _ _ _ _ _ _ _ _ => none)
 (fun _ _ _ _ _ _ _ _ => none)
 (fun _ _ _ _ _ _ _ _ => none)
 (fun _ _ _ _ _ _ _ _ => none)
 (fun _ _ _ _ _ _ _ _ => none)
 (fun _ _ _ _ _ _ _ _ _ => none)
 (fun a0 a1 a2 a3 T P E H sz => wMu P H sz a0 (evF a1 E) (evF a2 E) (evF a3 E))
 (fun _ _ _ _ _ _ _ _ => none)
 (fun _ _ _ _ _ _ _ _ _ => none)
 (fun _ _ _ _ _ _ _ => none)
 (fun _ _ _ _ _ _ _ => none)
 (fun _ _ _ _ _ _ => none)
 (fun _ _ _ _ _ _ _ _ _ => none)
 (fun _ _ _ _ _ _ _ => none)
 (fun a0 T P E H sz => wCall P E H sz a0.callee a0.args.toList a0.argTypes.toList)
 (fun _ _ _ _ _ _ => none)
 (fun _ _ _ _ _ _ => none)
 (fun _ _ _ _ _ _ => none)
 (fun _ _ _ _ _ _ _ => none)
 (fun _ _ _ _ _ _ _ _ => none)
 (fun _ _ _ _ _ _ _ => none) op
theorem wrF_sub {T : Tab} {P : Program} {E : Trie AV} {H : Trie AO} {sz : Nat} {op : Op} {r : Out} (h : wrF op T P E H sz = some r) : wrA T P E H sz op = some r := by
 cases op <;> try exact h
 exact wStF_sub h
section
variable {T : Tab} {P : Program} {n : Nat} {ops : Array Oper} {Q : Exit → Act → World → Prop} {w w0 : World} {G0 G : GH} {D0 : List Nat} {L : List Rs} {E : Trie AV} {e : EL} {H : Trie AO} {sz : Nat} {a : Act} {rest : List Oper}
variable {d ty : Nat} {ps : String} {af : Array Edge} {g : Option (Nat × Bool)}
theorem isSlNil {A : Option Addr} {t te s : Nat} {x y : Operand} {c c2 : Nat} {A2 : Option Addr} {m : Nat} (hA : AppI P t te s) (hE : Env a n e) (hx : ev e x = some (.slice A m c)) (hy : ev e y = some (.slice A2 0 c2)) (hnm : m ≤ c) (dst : Option Nat) :
 (execOp a.eval ⟨dst, .call ⟨.builtin .append, ⟨[x, y]⟩, ⟨[t, t]⟩⟩, ty, ps, af, g⟩).run P w = .ok (.value (.slice A m c)) w := by
 obtain ⟨hu, ii, z, hi, hz, hs', hzs, h0, hby⟩ := hA
 cases A with
 | none => cases A2 <;> simp [execOp, resolve, invoke, builtin, hE.eval hx, hE.eval hy, Builtin.append_, run_underlying hu, sizeOf, typeInfo, hi, Builtin.lenOf, Builtin.firstCells, loadCells, loadCellsFrom, hnm]
 | some ad => cases A2 <;> simp [execOp, resolve, invoke, builtin, hE.eval hx, hE.eval hy, Builtin.append_, run_underlying hu, sizeOf, typeInfo, hi, Builtin.lenOf, Builtin.firstCells, loadCells, loadCellsFrom, hnm, storeCells]
theorem row_le {i te s m : Nat} {A : Option Addr} {c : Nat} {cs : List Value} (hI : Inv w0 G0 D0 G L w) (hL : L[i]? = some (.row (.slice A m c) te s m cs)) : m ≤ c := by
 have hown : w.ownsRow 0 te s (.slice A m c) m cs := hI.ok _ (List.mem_of_getElem? hL)
 rcases hown.2 with ⟨hv, h0⟩ | ⟨g, cap, cur, hv, _, hg, hnc, _⟩
 · rw [h0]; omega
 · injection hv with e1 e2 e3; omega
theorem s_app {te s m nn c : Nat} {v : Value} {x y : Operand} {xs news : List Value} {ba : Addr} {t : Nat} (hA : AppI P t te s) (i : Nat) {L0 : List Rs} (hI : Inv w0 G0 D0 G L0 w) (hE : Env a n e) (hg : gd ops e g = some true) (hL : L0[i]? = some (.row v te s nn xs))
 (hl : news.length = m * s) (hnews : ∀ j u, news[j]? = some u → w.cell? (ba.add j) = some u) (h1 : ∀ u, u ∈ news → u.oneCell' = true) (hb : nn + m ≤ 4294967296) (hx : ev e x = some v) (hy : ev e y = some (.slice (some ba) m c)) (hd : Nat.blt d n = true)
 (k : ∀ a' w' A' c', Env a' n ((d, .slice A' (nn + m) c') :: e) → Inv w0 G0 D0 G (L0.set i (.row (.slice A' (nn + m) c') te s (nn + m) (xs ++ news))) w' → wpList P ops Q rest a' w') :
 wpList P ops Q (⟨some d, .call ⟨.builtin .append, ⟨[x, y]⟩, ⟨[t, t]⟩⟩, ty, ps, af, g⟩ :: rest) a w := by
 obtain ⟨A', c', w', hr, hI'⟩ := append_run (P := P) (ty := ty) (c := c) (ba := ba) (m := m) (news := news) hA i hI hL hl hnews h1 hb (y := y) (x := x)
 refine wpList_do (gd_wanted hE hg) (wp_val (w' := w') (v := .slice A' (nn + m) c') ?_ (k _ _ A' c' (hE.put hd _) hI'))
 simp [execOp, resolve, invoke, builtin, hE.eval hx, hE.eval hy, hr]
theorem appstr_run {te nn i t u : Nat} {v : Value} {xs : List Value} {s : ByteArray} {ii : TypeInfo} (hut : P.underlying t = some (.slice te)) (hu : P.underlying u = some .string) (hi : P.info? te = some ii) (hz : ii.zero = some (.int .u8 0)) (hs : ii.size = 1) (hby : ii.bytes = 1) (hI : Inv w0 G0 D0 G L w) (hL : L[i]? = some (.row v te 1 nn xs)) (hb : nn + s.size ≤ 4294967296) (h0 : 0 < s.size) :
 ∃ A' c' w', (Builtin.append_ #[t, u] ty #[v, .string s]).run P w = .ok (.slice A' (nn + s.size) c') w' ∧ Inv w0 G0 D0 G (L.set i (.row (.slice A' (nn + s.size) c') te 1 (nn + s.size) (xs ++ Lib.strCells s))) w' := by
 have hown : w.ownsRow 0 te 1 v nn xs := hI.ok _ (List.mem_of_getElem? hL)
 have hxl : xs.length = nn := by simpa using hown.1
 rcases hown.2 with ⟨rfl, rfl⟩ | ⟨g, cap, cur, rfl, hbg, hg, hnc, hcm, hcs, htake⟩
 · obtain ⟨v', w', hr, ho, hgr, hn⟩ := Lib.run_append_own_string (P := P) (ty := ty) w w.heap.size t u te ii hut hu hi hz hs hby (.slice none 0 0) 0 xs (by
    have : xs = [] := List.eq_nil_of_length_eq_zero hxl
    subst this; exact World.ownsRow_nil w _ te 1) s (by unfold maxLen; omega) (by omega) (Nat.le_refl _)
   obtain ⟨A', c', rfl⟩ := own_form ho
   refine ⟨A', c', w', hr, hI.turn i hL _ hgr.os hgr.tape hgr.output hgr.size (fun k hk hne => hgr.block k hk (by simp [Value.ownBlock])) (ownsRow_base ho) (.inr ?_)⟩
   rcases ho.2 with ⟨_, h1⟩ | ⟨g, cap, cur, hv, hbg, _⟩
   · omega
   · injection hv with e1
     subst e1
     exact ⟨g, by simp [Rs.foot, Value.ownBlock], hbg⟩
 · obtain ⟨v', w', hr, ho, hgr, hn⟩ := Lib.run_append_own_string (P := P) (ty := ty) w 0 t u te ii hut hu hi hz hs hby (.slice (some ⟨g, 0, none⟩) nn cap) nn xs hown s (by unfold maxLen; omega) (by omega) (Nat.zero_le _)
   obtain ⟨A', c', rfl⟩ := own_form ho
   refine ⟨A', c', w', hr, hI.turn i hL _ hgr.os hgr.tape hgr.output hgr.size (fun k hk hne => hgr.block k hk (fun e => hne (by simp [Rs.foot, ← e]))) ho ?_⟩
   by_cases hroom : nn + s.size ≤ cap
   · left
     have hr2 := Lib.run_append_room_string (P := P) w t u ty te ii hut hu hi hs g nn cap cur hg s hroom (by omega)
     rw [hr] at hr2
     injection hr2 with e1 e2
     injection e1 with e1
     subst e1
     simp [Rs.foot, Value.ownBlock]
   · right
     have holds : ∀ j u, xs[j]? = some u → w.cell? ((⟨g, 0, none⟩ : Addr).add j) = some u := hown.cells (g := g) rfl
     have hr2 := Lib.run_append_grow_string (P := P) w t u ty te ii (.int .u8 0) hut hu hi hz ⟨g, 0, none⟩ nn cap xs (by rw [hs]; simpa using hxl) holds s (by omega) (by omega) (by rw [hby]; exact growslice_fits (by omega) (by omega))
     rw [hr] at hr2
     injection hr2 with e1 e2
     injection e1 with e1
     subst e1
     exact ⟨w.heap.size, by simp [Rs.foot, Value.ownBlock], Nat.le_refl _⟩
theorem s_aps {te nn i t u : Nat} {v : Value} {x y : Operand} {xs : List Value} {s : ByteArray} {ii : TypeInfo} {L0 : List Rs} (hut : P.underlying t = some (.slice te)) (hu : P.underlying u = some .string) (hi : P.info? te = some ii) (hz : ii.zero = some (.int .u8 0)) (hs : ii.size = 1) (hby : ii.bytes = 1) (hI : Inv w0 G0 D0 G L0 w) (hE : Env a n e) (hg : gd ops e g = some true) (hL : L0[i]? = some (.row v te 1 nn xs)) (hb : nn + s.size ≤ 4294967296) (h0 : 0 < s.size)
 (hx : ev e x = some v) (hy : ev e y = some (.string s)) (hd : Nat.blt d n = true)
 (k : ∀ a' w' A' c', Env a' n ((d, .slice A' (nn + s.size) c') :: e) → Inv w0 G0 D0 G (L0.set i (.row (.slice A' (nn + s.size) c') te 1 (nn + s.size) (xs ++ Lib.strCells s))) w' → wpList P ops Q rest a' w') :
 wpList P ops Q (⟨some d, .call ⟨.builtin .append, ⟨[x, y]⟩, ⟨[t, u]⟩⟩, ty, ps, af, g⟩ :: rest) a w := by
 obtain ⟨A', c', w', hr, hI'⟩ := appstr_run (P := P) (ty := ty) hut hu hi hz hs hby hI hL hb h0
 refine wpList_do (gd_wanted hE hg) (wp_val (w' := w') (v := .slice A' (nn + s.size) c') ?_ (k _ _ A' c' (hE.put hd _) hI'))
 simp [execOp, resolve, invoke, builtin, hE.eval hx, hE.eval hy, hr]
theorem bytesU_eq {ps : List Pl} : ∀ {l : List AV} {xs : List UInt8} {cs : List Value}, bytesU l = some xs → RVs ps l cs → cs = xs.map (fun x => Value.int .u8 (x.toNat : Int))
 | [], xs, cs, h, k => by simp only [bytesU, Option.some.injEq] at h; subst h; simpa [RVs] using k
 | v :: l, xs, cs, h, k => by
  unfold bytesU at h
  split at h
  · rename_i l0 heq; cases heq
  · rename_i k0 l0 heq
    cases heq
    split at h
    · rename_i r hr
      obtain ⟨hb, rfl⟩ := cnd h
      simp only [RVs] at k
      obtain ⟨q, rs', rfl, h2, h3⟩ := k
      obtain rfl := h2.ofdat
      have hb : k0 < 256 := by simpa [Nat.blt_eq] using hb
      rw [List.map_cons, bytesU_eq hr h3]
      congr 1
      have : (UInt8.ofNat k0).toNat = k0 := by simp [Nat.mod_eq_of_lt hb]
      rw [this]; rfl
    · cases h
  · cases h
theorem HS.dead (h : HS H sz L) {i : Nat} {s : Rs} (hL : L[i]? = some s) (hs : ∃ A c, s.pl = .row A c) : HS (Trie.set 40 H i .gone) sz (L.set i dead) := by
 have hi : i < L.length := (List.getElem?_eq_some_iff.1 hL).1
 have hx : Ext (L.map Rs.pl) ((L.set i Go.Proofs.YtknhbphhdfknaaaGreatDoor.dead).map Rs.pl) := fun j p hp => by
  rw [List.map_set]
  by_cases e : i = j
  · subst e
    right
    obtain ⟨A, c, hs⟩ := hs
    refine ⟨⟨A, c, ?_⟩, by simp [hi, Go.Proofs.YtknhbphhdfknaaaGreatDoor.dead, Rs.pl]⟩
    simp [hL, hs] at hp
    exact hp.symm
  · left; rw [List.getElem?_set_ne e]; exact hp
 refine ⟨by simp [h.len], fun j o' hj => ?_⟩
 rcases Trie.get_set _ _ _ _ _ _ hj with ⟨rfl, rfl⟩ | ⟨h1, h2⟩
 · exact ⟨Go.Proofs.YtknhbphhdfknaaaGreatDoor.dead, by simp [hi], by simp only [RO]⟩
 · obtain ⟨q, h5, h6⟩ := h.obj j o' h2
   exact ⟨q, by rw [List.getElem?_set_ne (Ne.symm h1)]; exact h5, h6.mono hx⟩
theorem ext_dead {i : Nat} {s : Rs} (hL : L[i]? = some s) (hs : ∃ A c, s.pl = .row A c) : Ext (L.map Rs.pl) ((L.set i dead).map Rs.pl) := fun j p hp => by
 have hi : i < L.length := (List.getElem?_eq_some_iff.1 hL).1
 rw [List.map_set]
 by_cases e : i = j
 · subst e
   right
   obtain ⟨A, c, hs⟩ := hs
   refine ⟨⟨A, c, ?_⟩, by simp [hi, dead, Rs.pl]⟩
   simp [hL, hs] at hp
   exact hp.symm
 · left; rw [List.getElem?_set_ne e]; exact hp
theorem s_ustr {te m c i pt it gb : Nat} {x y : Operand} {l : List UInt8} (hI : Inv w0 G0 D0 G L w) (hE : Env a n e) (hg : gd ops e g = some true) (hL : L[i]? = some (.row (.slice (some ⟨gb, 0, none⟩) m c) te 1 m (l.map fun x => Value.int .u8 (x.toNat : Int)))) (hm : l.length = m) (h0 : 0 < m) (hp : P.underlying pt = some (.pointer te)) (hc : P.cellsOf te = 1)
 (hx : ev e x = some (.pointer (some ⟨gb, 0, none⟩))) (hy : ev e y = some (.int .i64 (m : Int))) (hd : Nat.blt d n = true)
 (k : ∀ a' w', Env a' n ((d, .string ⟨⟨l⟩⟩) :: e) → Inv w0 G0 D0 G (L.set i dead) w' → wpList P ops Q rest a' w') :
 wpList P ops Q (⟨some d, .call ⟨.builtin .unsafeString, ⟨[x, y]⟩, ⟨[pt, it]⟩⟩, ty, ps, af, g⟩ :: rest) a w := by
 have hil : i < L.length := (List.getElem?_eq_some_iff.1 hL).1
 have hown : w.ownsRow 0 te 1 (.slice (some ⟨gb, 0, none⟩) m c) m (l.map fun x => Value.int .u8 (x.toNat : Int)) := hI.ok _ (List.mem_of_getElem? hL)
 rcases hown.2 with ⟨hv', h0'⟩ | ⟨gg, cap, cur, hv', hbg, hgg, hnc, hcm, hcsz, htk⟩
 · simp at hv'
 injection hv' with e1 e2 e3
 injection e1 with e1
 injection e1 with e1
 subst e1
 have hsh : w.shape? gb = some (te, cur.size) := by simp [World.shape?, hgg]
 have hr := Lib.run_unsafeString_row (P := P) w pt it ty te hp hc gb cur.size hsh l (fun e => by rw [e] at hm; simp at hm; omega) (by omega) (by unfold maxLen at hcm; omega) (fun j u hu => by
  have := hown.cells (g := gb) rfl j (.int .u8 u.toNat) (by simp [hu])
  exact this)
 rw [hm] at hr
 refine wpList_do (gd_wanted hE hg) (wp_val (w' := w.freeze ⟨gb, 0, none⟩ m) (v := .string ⟨⟨l⟩⟩) ?_ (k _ _ (hE.put hd _) ?_))
 · simp [execOp, resolve, invoke, builtin, hE.eval hx, hE.eval hy, hr]
 · have hset : ∀ r, r ∈ L.set i dead → r = dead ∨ ∃ j, j ≠ i ∧ L[j]? = some r := fun r hr => by
    obtain ⟨j, hj⟩ := List.mem_iff_getElem?.1 hr
    by_cases e : j = i
    · subst e
      rw [List.getElem?_set_self (by simpa using hil)] at hj
      exact .inl (Option.some.inj hj).symm
    · rw [List.getElem?_set_ne (Ne.symm e)] at hj
      exact .inr ⟨j, e, hj⟩
   have hfz : ∀ k, k ≠ gb → (w.freeze ⟨gb, 0, none⟩ m).heap[k]? = w.heap[k]? := fun k hk => by
    unfold World.freeze
    rw [if_neg (by omega)]
    simp only [Array.getElem?_modify]
    rw [if_neg (fun e => hk e.symm)]
   have hds := hI.dis
   rw [List.pairwise_iff_getElem] at hds
   have hother : ∀ j r, j ≠ i → L[j]? = some r → gb ∉ r.foot := fun j r hj hr hm' => by
    obtain ⟨hj1, hj2⟩ := List.getElem?_eq_some_iff.1 hr
    obtain ⟨hi1, hi2⟩ := List.getElem?_eq_some_iff.1 hL
    rcases Nat.lt_or_gt_of_ne hj with hlt | hgt
    · exact hds j i hj1 hi1 hlt gb (by rw [hj2]; exact hm') (by rw [hi2]; simp [Rs.foot, Value.ownBlock])
    · exact hds i j hi1 hj1 hgt gb (by rw [hi2]; simp [Rs.foot, Value.ownBlock]) (by rw [hj2]; exact hm')
   refine hI.step (by unfold World.freeze; split <;> rfl) (by unfold World.freeze; split <;> rfl) (by unfold World.freeze; split <;> rfl) (by unfold World.freeze; split <;> simp) [gb] (fun b hb _ => ?_) (fun k hk hkn => hfz k (by simpa using hkn)) (fun r hr => ?_) ?_
   · rw [List.mem_singleton.1 hb]
     exact hI.sep _ (List.mem_of_getElem? hL) gb (by simp [Rs.foot, Value.ownBlock])
   · rcases hset r hr with rfl | ⟨j, hj, hjr⟩
     · exact .inr ⟨⟨by simp, .nil⟩, fun b hb => by simp [dead, Rs.foot] at hb⟩
     · refine .inl ⟨List.mem_of_getElem? hjr, fun b hb => ?_⟩
       simp only [List.mem_singleton]
       rintro rfl
       exact hother j r hj hjr hb
   · rw [List.pairwise_iff_getElem]
     intro j1 j2 h1 h2 hlt b hb
     by_cases e1 : j1 = i
     · subst e1; rw [List.getElem_set_self] at hb; simp [dead, Rs.foot] at hb
     · by_cases e2 : j2 = i
       · subst e2; rw [List.getElem_set_self]; simp [dead, Rs.foot]
       · rw [List.getElem_set_ne (Ne.symm e1)] at hb
         rw [List.getElem_set_ne (Ne.symm e2)]
         exact hds j1 j2 (by simpa using h1) (by simpa using h2) hlt b hb
theorem setR_of : ∀ {L : List Rs} {i : Nat} (h : i < L.length) (r : Rs), setR L i r = some (L.set i r)
 | [], i, h, r => by simp at h
 | x :: L, 0, h, r => rfl
 | x :: L, i + 1, h, r => by simp only [setR, setR_of (L := L) (i := i) (by simpa using h) r]; rfl
theorem rm_none {kvs : List (ByteArray × Int)} : ∀ {es : List MapEntry}, RM G false D.str (D.int .i64) kvs es → RM (fun _ => none) false D.str (D.int .i64) kvs es := by
 induction kvs with
 | nil => intro es h; simpa [RM, RepM] using h
 | cons p kvs ih =>
  intro es h
  rw [RM.cons] at h ⊢
  obtain ⟨x, es', rfl, h1, ⟨c, h2, h3⟩, h4⟩ := h
  refine ⟨x, es', rfl, by simpa [Rep] using h1, ⟨c, by simpa [Rep] using h2, h3⟩, ih h4⟩
theorem row_some {i te s m : Nat} {A : Option Addr} {c : Nat} {cs : List Value} (hI : Inv w0 G0 D0 G L w) (hL : L[i]? = some (.row (.slice A m c) te s m cs)) (hm : 0 < m) : ∃ g, A = some ⟨g, 0, none⟩ := by
 have hown : w.ownsRow 0 te s (.slice A m c) m cs := hI.ok _ (List.mem_of_getElem? hL)
 rcases hown.2 with ⟨hv, h0⟩ | ⟨g, cap, cur, hv, _⟩
 · omega
 · injection hv with e1 e2 e3; exact ⟨g, e1⟩
theorem s_make2 {te m : Nat} {t : Nat} {l l2 : Operand} {k1 : IntKind} {c : Int} {z : Value} (hA : AppI P t te 1) (hz : (P.info? te).bind (·.zero) = some z) (hz1 : one1 z = true) (hI : Inv w0 G0 D0 G L w) (hE : Env a n e) (hg : gd ops e g = some true) (hl : ev e l = some (.int k1 c)) (hl2 : ev e l2 = some (.int k1 c)) (hc : c = (m : Int)) (hm : m ≤ 4294967296) (hd : Nat.blt d n = true)
 (k : ∀ a' w' b, Env a' n ((d, .slice (some ⟨b, 0, none⟩) m m) :: e) → Inv w0 G0 D0 G (.row (.slice (some ⟨b, 0, none⟩) m m) te 1 m (List.replicate m z) :: L) w' → wpList P ops Q rest a' w') :
 wpList P ops Q (⟨some d, .makeSlice t l l2, ty, ps, af, g⟩ :: rest) a w := by
 obtain ⟨hu, ii, z', hi, hz', hs, hzs, h0, hby⟩ := hA
 have hzz : z' = z := by rw [hi] at hz; simp [hz'] at hz; exact hz
 subst hzz; subst hc
 obtain ⟨w', hr, ho, hgr⟩ := run_make_full (P := P) w 0 t te ii z' 1 hu hi hz' hs k1 k1 m (by have := Nat.mul_le_mul hby hm; omega) (by unfold maxLen; omega) (Nat.zero_le _)
 have hcells : z'.cells = #[z'] := by cases z' <;> simp_all [one1, Value.cells]
 rw [hcells, Nat.mul_one, toList_madeCells_one] at ho
 refine wpList_do (gd_wanted hE hg) (wp_val (w' := w') ?_ (k _ _ w.heap.size (hE.put hd _) ?_))
 · simp [execOp, hE.eval hl, hE.eval hl2, hr]
 · have h1 : Inv w0 G0 D0 G (.row (.slice none 0 0) te 1 0 [] :: L) w := hI.nilrow te 1
   have := h1.turn 0 rfl (.row (.slice (some ⟨w.heap.size, 0, none⟩) m m) te 1 m (List.replicate m z')) hgr.os hgr.tape hgr.output hgr.size (fun k hk hne => hgr.block k hk (by simp)) ho (.inr ⟨_, rfl, Nat.le_refl _⟩)
   simpa using this
theorem ext_eq {a b : List Pl} (h : b = a) : Ext a b := h ▸ Ext.refl a
noncomputable def Then (P : Program) (ops : Array Oper) (Q : Exit → Act → World → Prop) (n : Nat) (w0 : World) (G0 : GH) (D0 : List Nat) (G : GH) (L : List Rs) (e : EL) (rest : List Oper) (dst : Option Nat) (o : Out) : Prop :=
 ∀ a' w' L' e', Ext (L.map Rs.pl) (L'.map Rs.pl) → HS o.H o.sz L' → (∀ j, j < L.length → j ∉ o.wr → L'[j]? = L[j]?) → Env a' n e' →
  (match o.v, dst with
   | some v, some d => ∃ r, RV (L'.map Rs.pl) v r ∧ e' = (d, r) :: e
   | none, none => e' = e
   | _, _ => False) → Inv w0 G0 D0 G L' w' → wpList P ops Q rest a' w'
theorem news_at {j lo m s mj te sj : Nat} {lj : List AV} {r : Value} (hI : Inv w0 G0 D0 G L w) (hH : HS H sz L) (hj : H.get j = some (.row te sj mj lj)) (hm : 0 < m) (hy : RV (L.map Rs.pl) (.sl j lo m s) r) :
 ∃ g cs c', r = .slice (some ⟨g, lo * s, none⟩) m c' ∧ RVs (L.map Rs.pl) lj cs ∧ ∀ i u, (((cs.drop (lo * s)).take (m * s)))[i]? = some u → w.cell? ((⟨g, lo * s, none⟩ : Addr).add i) = some u := by
 obtain ⟨v, cs, A, c, k1, rfl, k3, k4⟩ := live_row hH hj
 simp only [RV] at hy
 rcases hy with ⟨A0, c0, A', c', g1, rfl, g2, g3⟩ | ⟨g1, _⟩
 · rcases g3 with g3 | ⟨g, rfl, rfl⟩
   · omega
   · rw [k3] at g1
     injection g1 with g1
     injection g1 with e1 e2
     subst e1
     refine ⟨g, cs, c', rfl, k4, fun i u hu => ?_⟩
     have hown : w.ownsRow 0 te sj (.slice (some ⟨g, 0, none⟩) mj c) mj cs := hI.ok _ (List.mem_of_getElem? k1)
     have hc := hown.cells rfl (lo * s + i) u (by
      rw [List.getElem?_take] at hu
      split at hu
      · rw [List.getElem?_drop] at hu; exact hu
      · cases hu)
     rw [Addr.add_lit] at hc ⊢
     simpa using hc
 · rw [k3] at g1; cases g1
theorem one_news {l : List AV} {cs : List Value} (h : RVs (L.map Rs.pl) l cs) (ho : l.all oneA = true) : ∀ u, u ∈ cs → u.oneCell' = true := fun u hu => one1_one (List.all_eq_true.1 (h.one ho) u hu)
theorem efA_run (hT : T.Ok P) (hI : Inv w0 G0 D0 G L w) (hE : Env a n e) (hR : ES E e (L.map Rs.pl)) (hH : HS H sz L) (hg : gd ops e g = some true) (hd : Nat.blt d n = true) {op : Op} {o : Out} (h : efA T P E H sz op = some o)
 (k : Then P ops Q n w0 G0 D0 G L e rest (some d) o) : wpList P ops Q (⟨some d, op, ty, ps, af, g⟩ :: rest) a w := by
 have fr : ∀ s : Rs, ∀ j, j < L.length → j ∉ ([] : List Nat) → (L ++ [s])[j]? = L[j]? := fun s j hj _ => frame_app L s j hj
 have at_ : ∀ s : Rs, ((L ++ [s]).map Rs.pl)[sz]? = some s.pl := fun s => by rw [← hH.len]; simp
 unfold efA at h
 split at h
 · unfold eBox at h
   split at h
   · rename_i v hv
     unfold eBox1 at h
     split at h
     · rename_i cs hc
       cases h
       obtain ⟨r, h1, h2⟩ := ev_of hR hv
       obtain ⟨rs, h3, h4⟩ := h2.cells hc
       refine s_box hI hE hg h1 h3 hd fun a' w' b hE' hI' => ?_
       exact k a' w' _ _ (ext_app L _) (hH.new (RO.mkB (h4.mono (ext_app L _)))) (fr _) hE' ⟨_, by simp only [RV]; exact ⟨b, at_ _, rfl⟩, rfl⟩ hI'.last
     · cases h
   · cases h
 · unfold eAl at h
   split at h
   · rename_i z hz
     unfold eAl1 at h
     split at h
     · rename_i cs hc
       cases h
       refine s_alloc hI hE hg hz hc hd fun a' w' b hE' hI' => ?_
       exact k a' w' _ _ (ext_app L _) (hH.new (RO.mkB (RVs.dats cs))) (fr _) hE' ⟨_, by simp only [RV]; exact ⟨b, at_ _, rfl⟩, rfl⟩ hI'.last
     · cases h
   · cases h
 · unfold eBs at h
   split at h
   · rename_i te s ag hs
     replace h := cnd' h; obtain ⟨hb, h⟩ := h
     simp only [Bool.and_eq_true] at hb
     obtain ⟨⟨hb1, hb2⟩, hb3⟩ := hb
     unfold eBs1 at h
     split at h
     · rename_i cs hc
       cases h
       obtain ⟨rs, h1, h2⟩ := parts_of hR hc
       refine s_bsl (app_of hb1) hI hE hg h1 hb2 hb3 hd fun a' w' b hE' hI' => ?_
       exact k a' w' _ _ (ext_app L _) (hH.new (RO.mkR (h2.mono (ext_app L _)))) (fr _) hE' ⟨_, by simp only [RV]; exact .inl ⟨_, _, _, _, at_ _, rfl, fun _ => ⟨rfl, rfl⟩, .inr ⟨b, rfl, by simp⟩⟩, rfl⟩ hI'.last
     · cases h
   · cases h
 · unfold eMk at h
   split at h
   · rename_i te ag k1 m k2 m' hs hx hy
     unfold eMk1 at h
     split at h
     · rename_i z hz
       obtain ⟨hb, rfl⟩ := cnd h
       simp only [Bool.and_eq_true] at hb
       obtain ⟨⟨⟨⟨hb1, hb2⟩, hb3⟩, hb4⟩, hb5⟩ := hb
       have e1 := Nat.eq_of_beq_eq_true hb3
       have e2 : k1 = k2 := by simpa [keq] using hb4
       have e3 := Nat.le_of_ble_eq_true hb5
       subst e1; subst e2
       obtain ⟨q, h1, h2⟩ := ev_of hR hx; obtain rfl := h2.ofdat
       obtain ⟨q', h3, h4⟩ := ev_of hR hy; obtain rfl := h4.ofdat
       refine s_make2 (m := m) (app_of hb1) hz hb2 hI hE hg h1 h3 rfl (by omega) hd fun a' w' b hE' hI' => ?_
       refine k a' w' _ _ (ext_app L _) (hH.new (RO.mkR (A := some ⟨b, 0, none⟩) (c := m) (cs := List.replicate m z) ?_)) (fr _) hE' ⟨_, by simp only [RV]; exact .inl ⟨_, _, _, _, at_ _, rfl, fun _ => ⟨rfl, rfl⟩, .inr ⟨b, rfl, by simp⟩⟩, rfl⟩ hI'.last
       have := RVs.dats (ps := (L ++ [Rs.row (.slice (some ⟨b, 0, none⟩) m m) te 1 m (List.replicate m z)]).map Rs.pl) (List.replicate m z)
       rwa [List.map_replicate] at this
     · cases h
   · cases h
 · cases h
   refine s_makeMap hI hE hg hd fun a' w' m hE' hI' => ?_
   exact k a' w' _ _ (ext_app L _) (hH.new (RO.mkM RM.nil)) (fr _) hE' ⟨_, by simp only [RV]; exact ⟨m, at_ _, rfl⟩, rfl⟩ hI'.last
 · rename_i c
   obtain ⟨callee, ⟨args⟩, ⟨ats⟩⟩ := c
   dsimp only at h
   unfold eCall at h
   split at h
   · rename_i x y t t'
     cases htt : Nat.beq t t' with
     | false =>
      rw [htt] at h
      simp only [cond_false] at h
      unfold eAs at h
      split at h
      · rename_i te ag vx s hs hx hy
        replace h := cnd' h
        obtain ⟨hb, h⟩ := h
        simp only [Bool.and_eq_true] at hb
        obtain ⟨⟨⟨b1, b2⟩, b3⟩, b4⟩ := hb
        have b4 : 0 < s.size := by simpa [Nat.blt_eq] using b4
        obtain ⟨hut, ii, z, hi, hz, hsz, hzs, h0, _⟩ := app_of b1
        obtain ⟨du, hdu, hdu'⟩ := isTy_of b2
        have hus : P.underlying t' = some .string := by
         cases du <;> simp at hdu'
         exact hdu
        have hbz : ii.bytes = 1 ∧ ii.zero = some (.int .u8 0) := by
         unfold byteB at b3
         rw [hi] at b3
         simp only [Bool.and_eq_true] at b3
         refine ⟨Nat.eq_of_beq_eq_true b3.1, ?_⟩
         have := b3.2
         split at this
         · assumption
         · cases this
        obtain ⟨ry, y1, y2⟩ := ev_of hR hy; obtain rfl := y2.ofdat
        obtain ⟨rx, x1, x2⟩ := ev_of hR hx
        have n3 : RVs (L.map Rs.pl) (sCells s) (Lib.strCells s) := RVs.dats _
        unfold eAs1 at h
        split at h
        · obtain ⟨c4, rfl⟩ := cnd h
          have c4 := Nat.le_of_ble_eq_true c4
          obtain rfl := x2.ofdat
          refine s_aps (i := 0) hut hus hi hbz.2 hsz hbz.1 (hI.nilrow te 1) hE hg rfl (by omega) b4 x1 y1 hd fun a' w' A' c'' hE' hI' => ?_
          simp only [List.set_cons_zero, Nat.zero_add, List.nil_append] at hE' hI'
          refine k a' w' _ _ (ext_app L _) (hH.new (RO.mkR (n3.mono (ext_app L _)))) (fr _) hE' ⟨_, ?_, rfl⟩ hI'.last
          have hat : (L ++ [Rs.row (.slice A' s.size c'') te 1 s.size (Lib.strCells s)])[sz]? = some (Rs.row (.slice A' s.size c'') te 1 s.size (Lib.strCells s)) := by rw [← hH.len]; simp
          obtain ⟨gA, hgA⟩ := row_some hI'.last (i := sz) hat b4
          subst hgA
          simp only [RV]
          exact .inl ⟨_, _, _, _, by rw [List.getElem?_map, hat]; rfl, rfl, fun _ => ⟨rfl, rfl⟩, .inr ⟨gA, rfl, by simp⟩⟩
        · rename_i i n0
          unfold eAs2 at h
          split at h
          · rename_i te' n' l ho
            obtain ⟨hb, rfl⟩ := cnd h
            simp only [Bool.and_eq_true] at hb
            obtain ⟨⟨c4, c5⟩, c7⟩ := hb
            have c4 := Nat.le_of_ble_eq_true c4
            obtain rfl := Nat.eq_of_beq_eq_true c5
            obtain rfl := Nat.eq_of_beq_eq_true c7
            obtain ⟨v, xs, A, c, k1, rfl, k3, k4⟩ := live_row hH ho
            have hil : i < L.length := (List.getElem?_eq_some_iff.1 k1).1
            have hrx : rx = .slice A n0 c := by
             simp only [RV] at x2
             rcases x2 with ⟨A0, c0, A', c', g1, rfl, g2, g3⟩ | ⟨g1, _⟩
             · rw [k3] at g1
               injection g1 with g1
               injection g1 with e1 e2
               subst e1; subst e2
               obtain ⟨rfl, rfl⟩ := g2 trivial
               rfl
             · rw [k3] at g1; cases g1
            subst hrx
            refine s_aps (i := i) hut hus hi hbz.2 hsz hbz.1 hI hE hg k1 c4 b4 x1 y1 hd fun a' w' A' c'' hE' hI' => ?_
            have hx2 := ext_kill k1 ⟨_, _, rfl⟩ (Rs.row (.slice A' (n0 + s.size) c'') te 1 (n0 + s.size) (xs ++ Lib.strCells s))
            have hI2 := hI'.kill hil
            refine k a' w' _ _ hx2 (hH.kill k1 ⟨_, _, rfl⟩ (RO.mkR ((k4.app n3).mono hx2))) (fun j' hj' hne => ?_) hE' ⟨_, ?_, rfl⟩ hI2
            · rw [List.getElem?_append_left (by simpa using hj'), List.getElem?_set_ne (fun e => hne (by simp [e]))]
            · have hat : (L.set i dead ++ [Rs.row (.slice A' (n0 + s.size) c'') te 1 (n0 + s.size) (xs ++ Lib.strCells s)])[sz]? = some (Rs.row (.slice A' (n0 + s.size) c'') te 1 (n0 + s.size) (xs ++ Lib.strCells s)) := by rw [← hH.len]; simp
              obtain ⟨gA, hgA⟩ := row_some hI2 (i := sz) hat (by omega)
              subst hgA
              simp only [RV]
              exact .inl ⟨_, _, _, _, by rw [List.getElem?_map, hat]; rfl, rfl, fun _ => ⟨rfl, rfl⟩, .inr ⟨gA, rfl, by simp⟩⟩
          · cases h
        · cases h
      · cases h
     | true =>
     rw [htt] at h
     simp only [cond_true] at h
     obtain rfl := Nat.eq_of_beq_eq_true htt
     unfold eAp at h
     split at h
     · rename_i te s ag vx j lo m s' hs hx hy
       replace h := cnd' h; obtain ⟨hb, h⟩ := h
       simp only [Bool.and_eq_true] at hb
       obtain ⟨hb1, hb2⟩ := hb
       obtain rfl := Nat.eq_of_beq_eq_true hb2
       have hA := app_of hb1
       obtain ⟨ry, y1, y2⟩ := ev_of hR hy
       unfold eAp0 at h
       split at h
       · rename_i tj sj mj lj hj
         unfold eAp1 at h
         split at h
         · obtain ⟨hb, rfl⟩ := cnd h
           simp only [Bool.and_eq_true] at hb
           obtain ⟨⟨⟨c1, c2⟩, c3⟩, c4⟩ := hb
           have c1 : 0 < m := by simpa using c1
           have c2 := Nat.le_of_ble_eq_true c2
           have c4 := Nat.le_of_ble_eq_true c4
           obtain ⟨g, cs, c', rfl, n1, n2⟩ := news_at hI hH hj c1 y2
           obtain ⟨rx, x1, x2⟩ := ev_of hR hx
           obtain rfl := x2.ofdat
           have n3 := (n1.drop (lo * s)).take (m * s)
           refine s_app hA 0 (hI.nilrow te s) hE hg rfl (by rw [n3.len]; simp; omega) n2 (one_news n3 c3) (by omega) x1 y1 hd fun a' w' A' c'' hE' hI' => ?_
           simp only [List.set_cons_zero, Nat.zero_add, List.nil_append] at hE' hI'
           refine k a' w' _ _ (ext_app L _) (hH.new (RO.mkR (n3.mono (ext_app L _)))) (fr _) hE' ⟨_, ?_, rfl⟩ hI'.last
           have hat : (L ++ [Rs.row (.slice A' m c'') te s m ((cs.drop (lo * s)).take (m * s))])[sz]? = some (Rs.row (.slice A' m c'') te s m ((cs.drop (lo * s)).take (m * s))) := by rw [← hH.len]; simp
           obtain ⟨gA, hgA⟩ := row_some hI'.last (i := sz) hat c1
           subst hgA
           simp only [RV]
           exact .inl ⟨_, _, _, _, at_ _, rfl, fun _ => ⟨rfl, rfl⟩, .inr ⟨gA, rfl, by simp⟩⟩
         · rename_i i n0 s2
           unfold eAp2 at h
           split at h
           · rename_i te' s3 n' l hi
             obtain ⟨hb, rfl⟩ := cnd h
             simp only [Bool.and_eq_true] at hb
             obtain ⟨⟨⟨⟨⟨⟨⟨c1, c2⟩, c3⟩, c4⟩, c5⟩, c6⟩, c7⟩, c8⟩ := hb
             have c1 : 0 < m := by simpa using c1
             have c2 := Nat.le_of_ble_eq_true c2
             have c4 := Nat.le_of_ble_eq_true c4
             obtain rfl := Nat.eq_of_beq_eq_true c5
             obtain rfl := Nat.eq_of_beq_eq_true c6
             obtain rfl := Nat.eq_of_beq_eq_true c7
             obtain rfl := Nat.eq_of_beq_eq_true c8
             obtain ⟨g, cs, c', rfl, n1, n2⟩ := news_at hI hH hj c1 y2
             obtain ⟨rx, x1, x2⟩ := ev_of hR hx
             obtain ⟨v, xs, A, c, k1, rfl, k3, k4⟩ := live_row hH hi
             have hil : i < L.length := (List.getElem?_eq_some_iff.1 k1).1
             have hrx : rx = .slice A n0 c := by
              simp only [RV] at x2
              rcases x2 with ⟨A0, c0, A', c', g1, rfl, g2, g3⟩ | ⟨g1, _⟩
              · rw [k3] at g1
                injection g1 with g1
                injection g1 with e1 e2
                subst e1; subst e2
                obtain ⟨rfl, rfl⟩ := g2 trivial
                rfl
              · rw [k3] at g1; cases g1
             subst hrx
             have n3 := (n1.drop (lo * s)).take (m * s)
             refine s_app hA i hI hE hg k1 (by rw [n3.len]; simp; omega) n2 (one_news n3 c3) c4 x1 y1 hd fun a' w' A' c'' hE' hI' => ?_
             have hx2 := ext_kill k1 ⟨_, _, rfl⟩ (Rs.row (.slice A' (n0 + m) c'') te s (n0 + m) (xs ++ (cs.drop (lo * s)).take (m * s)))
             have hI2 := hI'.kill hil
             refine k a' w' _ _ hx2 (hH.kill k1 ⟨_, _, rfl⟩ (RO.mkR ((k4.app n3).mono hx2))) (fun j' hj' hne => ?_) hE' ⟨_, ?_, rfl⟩ hI2
             · rw [List.getElem?_append_left (by simpa using hj'), List.getElem?_set_ne (fun e => hne (by simp [e]))]
             · have hat : (L.set i dead ++ [Rs.row (.slice A' (n0 + m) c'') te s (n0 + m) (xs ++ (cs.drop (lo * s)).take (m * s))])[sz]? = some (Rs.row (.slice A' (n0 + m) c'') te s (n0 + m) (xs ++ (cs.drop (lo * s)).take (m * s))) := by rw [← hH.len]; simp
               obtain ⟨gA, hgA⟩ := row_some hI2 (i := sz) hat (by omega)
               subst hgA
               simp only [RV]
               exact .inl ⟨_, _, _, _, by rw [List.getElem?_map, hat]; rfl, rfl, fun _ => ⟨rfl, rfl⟩, .inr ⟨gA, rfl, by simp⟩⟩
           · cases h
         · cases h
       · cases h
     · rename_i te s ag vx hs hx hy
       obtain ⟨ry, y1, y2⟩ := ev_of hR hy
       obtain rfl := y2.ofdat
       unfold eAn1 at h
       split at h
       · obtain ⟨hb, rfl⟩ := cnd h
         obtain ⟨rx, x1, x2⟩ := ev_of hR hx
         obtain rfl := x2.ofdat
         refine wpList_do (gd_wanted hE hg) (wp_val (isSlNil (app_of hb) hE x1 y1 (Nat.le_refl _) _) ?_)
         exact k _ _ L _ (Ext.refl _) hH (fun _ _ _ => rfl) (hE.put hd _) ⟨_, RV.dat, rfl⟩ hI
       · rename_i i n0 s2
         unfold eAn2 at h
         split at h
         · rename_i te' s3 n' l hi
           obtain ⟨hb, rfl⟩ := cnd h
           simp only [Bool.and_eq_true] at hb
           obtain ⟨hb1, hb2⟩ := hb
           obtain rfl := Nat.eq_of_beq_eq_true hb2
           obtain ⟨rx, x1, x2⟩ := ev_of hR hx
           obtain ⟨v, xs, A, c, k1, rfl, k3, k4⟩ := live_row hH hi
           have hrx : rx = .slice A n0 c := by
            have x2 := x2
            simp only [RV] at x2
            rcases x2 with ⟨A0, c0, A', c', g1, rfl, g2, g3⟩ | ⟨g1, _⟩
            · rw [k3] at g1
              injection g1 with g1
              injection g1 with e1 e2
              subst e1; subst e2
              obtain ⟨rfl, rfl⟩ := g2 trivial
              rfl
            · rw [k3] at g1; cases g1
           subst hrx
           refine wpList_do (gd_wanted hE hg) (wp_val (isSlNil (app_of hb1) hE x1 y1 (row_le hI k1) _) ?_)
           exact k _ _ L _ (Ext.refl _) hH (fun _ _ _ => rfl) (hE.put hd _) ⟨_, x2, rfl⟩ hI
         · cases h
       · cases h
     · cases h
   · rename_i x y pt it
     unfold eUs at h
     split at h
     · rename_i i m hx hy
       unfold eUs2 at h
       split at h
       · rename_i te n' l ho
         replace h := cnd' h
         obtain ⟨hb, h⟩ := h
         simp only [Bool.and_eq_true] at hb
         obtain ⟨⟨⟨b1, b2⟩, b3⟩, b4⟩ := hb
         obtain rfl := Nat.eq_of_beq_eq_true b1
         obtain ⟨du, hdu, hdu'⟩ := isTy_of b2
         have hup : P.underlying pt = some (.pointer te) := by
          cases du <;> simp at hdu'
          subst hdu'; exact hdu
         have b3 := Nat.eq_of_beq_eq_true b3
         have b4 : 0 < n' := by simpa [Nat.blt_eq] using b4
         unfold eUs3 at h
         split at h
         · rename_i bs hbs
           obtain ⟨hl, rfl⟩ := cnd h
           have hl := Nat.eq_of_beq_eq_true hl
           obtain ⟨rx, x1, x2⟩ := ev_of hR hx
           obtain ⟨ry, y1, y2⟩ := ev_of hR hy
           obtain rfl := y2.ofdat
           obtain ⟨g', c, cs, k1, rfl, k4⟩ := pel_live hH ho x2
           obtain rfl := bytesU_eq hbs k4
           refine s_ustr hI hE hg k1 hl b4 hup b3 x1 y1 hd fun a' w' hE' hI' => ?_
           exact k a' w' (L.set i dead) _ (ext_dead k1 ⟨_, _, rfl⟩) (hH.dead k1 ⟨_, _, rfl⟩) (fun j _ hne => List.getElem?_set_ne (fun e => hne (by simp [e]))) hE' ⟨_, RV.dat, rfl⟩ hI'
         · cases h
       · cases h
     · cases h
   · cases h
 · cases h
theorem s_clear {te k1 m lo t : Nat} {c c2 gb : Nat} {cs : List Value} {z : Value} {x : Operand} (i : Nat) (hI : Inv w0 G0 D0 G L w) (hE : Env a n e) (hg : gd ops e g = some true) (hL : L[i]? = some (.row (.slice (some ⟨gb, 0, none⟩) m c) te 1 m cs))
 (hu : P.underlying t = some (.slice te)) (hz : (P.info? te).bind (·.zero) = some z) (h1 : one1 z = true) (hx : ev e x = some (.slice (some ⟨gb, lo * 1, none⟩) (k1 + 1) c2)) (hb : lo + (k1 + 1) ≤ m)
 (k : ∀ a' w', Env a' n e → Inv w0 G0 D0 G (L.set i (.row (.slice (some ⟨gb, 0, none⟩) m c) te 1 m (cs.take lo ++ (List.replicate (k1 + 1) z ++ cs.drop (lo + (k1 + 1)))))) w' → wpList P ops Q rest a' w') :
 wpList P ops Q (⟨none, .call ⟨.builtin .clear, ⟨[x]⟩, ⟨[t]⟩⟩, ty, ps, af, g⟩ :: rest) a w := by
 have hown : w.ownsRow 0 te 1 (.slice (some ⟨gb, 0, none⟩) m c) m cs := hI.ok _ (List.mem_of_getElem? hL)
 rcases hown.2 with ⟨hv', h0⟩ | ⟨gg, cap, cur, hv', hbg, hgg, hnc, hcm, hcsz, htk⟩
 · simp at hv'
 injection hv' with e1 e2 e3
 injection e1 with e1
 injection e1 with e1
 subst e1
 have hcl : cs.length = m := by simpa using hown.1
 have htk' : cur.toList.take m = cs := by simpa using htk
 have hcur : m ≤ cur.toList.length := by rw [← hcl, ← htk', List.length_take]; exact Nat.min_le_right _ _
 have hst := run_storeCells_at P gb (lo * 1) te (List.replicate (k1 + 1) z) 0 cur w hgg (by simp at hcur ⊢; omega) (fun u hu => by rw [List.eq_of_mem_replicate hu]; exact one1_one h1)
 simp only [Nat.add_zero, Nat.mul_one, List.length_replicate] at hst
 have hcurs : cur.toList = cs ++ cur.toList.drop m := by
  conv => lhs; rw [← List.take_append_drop m cur.toList]
  rw [htk']
 have hnew : (cur.toList.take lo ++ List.replicate (k1 + 1) z ++ cur.toList.drop (lo + (k1 + 1))) = (cs.take lo ++ (List.replicate (k1 + 1) z ++ cs.drop (lo + (k1 + 1)))) ++ cur.toList.drop m := by
  conv => lhs; rw [hcurs]
  rw [List.take_append_of_le_length (by omega), List.drop_append_of_le_length (by omega)]
  simp only [List.append_assoc]
 have hcells : z.cells = #[z] := by cases z <;> first | rfl | cases h1
 have hzc : (Builtin.zeroCells z.cells (k1 + 1)).toList = List.replicate (k1 + 1) z := by
  rw [hcells]
  simp [Builtin.zeroCells]
  apply List.ext_getElem
  · simp
  · intro i h1 h2
    simp [Nat.mod_one]
 have hzv : (zeroValue te).run P w = .ok z w := by
  cases hi : P.info? te with
  | none => simp [hi] at hz
  | some ii => simp [hi] at hz; simp [zeroValue, typeInfo, hi, hz]
 refine wpList_do (gd_wanted hE hg) (wp_val (w' := w.setRow gb ((cs.take lo ++ (List.replicate (k1 + 1) z ++ cs.drop (lo + (k1 + 1)))) ++ cur.toList.drop m).toArray) (v := .tuple #[]) ?_ (k _ _ (hE.put_none _) ?_))
 · rw [← hnew]
   have hx' := hE.eval hx
   simp only [Nat.mul_one] at hx'
   simp [execOp, resolve, invoke, builtin, hx', Builtin.clear_, run_underlying hu, hzv, hzc, hst]
 · refine hI.turn i hL _ rfl rfl rfl (by simp) (fun k hk hne => setRow_other w gb k _ (fun e => hne (by simp [Rs.foot, Value.ownBlock, e]))) ?_ (.inl rfl)
   have hln : (cs.take lo ++ (List.replicate (k1 + 1) z ++ cs.drop (lo + (k1 + 1)))).length = m := by simp; omega
   refine ⟨by rw [hln]; simp, .inr ⟨gb, c, ((cs.take lo ++ (List.replicate (k1 + 1) z ++ cs.drop (lo + (k1 + 1)))) ++ cur.toList.drop m).toArray, rfl, Nat.zero_le _, setRow_heap w gb _ _ _ _ hgg, ?_, ?_, ?_, ?_⟩⟩
   · subst e3; exact hnc
   · subst e3; exact hcm
   · subst e3
     have hcc : cur.toList.length = c * 1 := by simpa using hcsz
     have : ((cs.take lo ++ (List.replicate (k1 + 1) z ++ cs.drop (lo + (k1 + 1)))) ++ cur.toList.drop m).length = c * 1 := by rw [List.length_append, hln, List.length_drop, hcc]; omega
     simpa using this
   · simp only [Nat.mul_one]; rw [← hln]; simp only [List.take_left']
theorem wrA_run (hT : T.Ok P) (hI : Inv w0 G0 D0 G L w) (hE : Env a n e) (hR : ES E e (L.map Rs.pl)) (hH : HS H sz L) (hg : gd ops e g = some true) {op : Op} {o : Out} (h : wrA T P E H sz op = some o)
 (k : Then P ops Q n w0 G0 D0 G L e rest none o) : wpList P ops Q (⟨none, op, ty, ps, af, g⟩ :: rest) a w := by
 have fr : ∀ (s : Rs) (i : Nat), ∀ j, j < L.length → j ∉ [i] → (L.set i s)[j]? = L[j]? := fun s i j _ hj => List.getElem?_set_ne (fun e => hj (by simp [e]))
 unfold wrA at h
 split at h
 · unfold wSt at h
   split at h
   · rename_i s ag i o' v hs hx hy
     unfold wSt1 at h
     split at h
     · rename_i T' l vs hi hv
       replace h := cnd' h; obtain ⟨hb, h⟩ := h
       simp only [Bool.and_eq_true] at hb
       unfold wSt2 at h
       split at h
       · rename_i l' hl
         cases h
         obtain ⟨rx, x1, x2⟩ := ev_of hR hx
         obtain ⟨ry, y1, y2⟩ := ev_of hR hy
         obtain ⟨u, k1, k2⟩ := hH.obj _ _ hi
         simp only [RV] at x2
         obtain ⟨b, h3, rfl⟩ := x2
         cases u <;> simp only [RO] at k2
         rename_i b' cs T2
         obtain ⟨rfl, k3⟩ := k2
         have : b' = b := by simpa [k1, Rs.pl] using h3
         subst this
         obtain ⟨us, h4, h5⟩ := y2.cells hv
         obtain ⟨cs', h6, h7⟩ := k3.lay h5 hl
         have hil : i < L.length := (List.getElem?_eq_some_iff.1 k1).1
         refine s_storeB hT i hI hE hg x1 y1 k1 hs h4 (h5.one hb.1) (by rw [h5.len]; exact hb.2) h6 (setR_of hil _) fun a' w' hE' hI' => ?_
         refine k a' w' (L.set i _) e (ext_eq (pl_set k1 ?_)) (hH.upd k1 ?_ (RO.mkB h7)) (fr _ _) hE' rfl hI' <;> rfl
       · cases h
     · cases h
   · rename_i s ag i o' v hs hx hy
     unfold wSr1 at h
     split at h
     · rename_i te es m l vs hi hv
       replace h := cnd' h; obtain ⟨hb, h⟩ := h
       simp only [Bool.and_eq_true] at hb
       obtain ⟨⟨b1, b2⟩, b3⟩ := hb
       have b3 := Nat.le_of_ble_eq_true b3
       unfold wSr2 at h
       split at h
       · rename_i ec hl
         cases h
         obtain ⟨rx, x1, x2⟩ := ev_of hR hx
         obtain ⟨ry, y1, y2⟩ := ev_of hR hy
         obtain ⟨g', c, cs, k1, rfl, k3⟩ := pel_live hH hi x2
         obtain ⟨us, h4, h5⟩ := y2.cells hv
         obtain ⟨ec', h6, h7⟩ := ((k3.drop (o' / es * es)).take es).lay h5 hl
         have hlen := k3.len
         have hec : ((cs.drop (o' / es * es)).take es).length = es := by simp; omega
         refine s_storeR (o := o' / es * es) (off := o' - o' / es * es) hT i hI hE hg k1 ?_ hec (by omega) x1 y1 (by have := Nat.div_mul_le_self o' es; omega) hs h4 (h5.one b1) (by rw [h5.len]; exact b2) h6 fun a' w' hE' _ _ hI' => ?_
         · have e1 : (cs.drop (o' / es * es)).drop es = cs.drop (o' / es * es + es) := by rw [List.drop_drop]
           rw [← e1, List.append_assoc, List.take_append_drop, List.take_append_drop]
         · have h8 : RVs (L.map Rs.pl) (l.take (o' / es * es) ++ ec ++ l.drop (o' / es * es + ec.length)) (putAt cs (o' / es * es) ec') := by
            unfold putAt
            rw [h7.len]
            exact ((k3.take _).app h7).app (k3.drop _)
           refine k a' w' (L.set i _) e (ext_eq (pl_set k1 ?_)) (hH.upd k1 ?_ (RO.mkR h8)) (fr _ _) hE' rfl hI' <;> rfl
       · cases h
     · cases h
   · cases h
 · unfold wMu at h
   split at h
   · rename_i i kk v hx hy hz
     unfold wMu1 at h
     split at h
     · rename_i kvs kt vt hi hu
       obtain ⟨hb, rfl⟩ := cnd h
       obtain ⟨dd, hd, hd'⟩ := isTy_of hb
       cases dd <;> simp at hd'
       obtain ⟨rx, x1, x2⟩ := ev_of hR hx
       obtain ⟨ry, y1, y2⟩ := ev_of hR hy; obtain rfl := y2.ofdat
       obtain ⟨rz, z1, z2⟩ := ev_of hR hz; obtain rfl := z2.ofdat
       obtain ⟨u, k1, k2⟩ := hH.obj _ _ hi
       simp only [RV] at x2
       obtain ⟨m, h5, rfl⟩ := x2
       cases u <;> simp only [RO] at k2
       rename_i m' es cl
       have : m' = m := by simpa [k1, Rs.pl] using h5
       subst this
       refine s_mapUpd (fv := D.int .i64) (agg := false) (v := v) (c := [.int .i64 v]) key_str i hI hE hg k1 (k2.mono (G' := G) (fun _ _ h => by cases h)) hu hd x1 y1 z1 (rep_int.2 rfl) rfl fun a' w' es' cl' hE' hM hI' => ?_
       refine k a' w' (L.set i _) e (ext_eq (pl_set k1 ?_)) (hH.upd k1 ?_ (RO.mkM (rm_none hM))) (fr _ _) hE' rfl hI' <;> rfl
     · cases h
   · cases h
 · rename_i cc
   obtain ⟨callee, ⟨args⟩, ⟨ats⟩⟩ := cc
   dsimp only at h
   unfold wCall at h
   split at h
   · unfold wCl at h
     split at h
     · rename_i te i lo k1 hu hx
       unfold wCl1 at h
       split at h
       · rename_i te' m l z ho hz
         obtain ⟨hb, rfl⟩ := cnd h
         simp only [Bool.and_eq_true] at hb
         obtain ⟨b1, b2, b3⟩ := hb
         obtain rfl := Nat.eq_of_beq_eq_true b2
         have b3 := Nat.le_of_ble_eq_true b3
         obtain ⟨rx, x1, x2⟩ := ev_of hR hx
         obtain ⟨u, cs, A, c, j1, rfl, j3, j4⟩ := live_row hH ho
         simp only [RV] at x2
         rcases x2 with ⟨A0, c0, A', c', g1, rfl, g2, g3⟩ | ⟨g1, _⟩
         · rw [j3] at g1
           injection g1 with g1
           injection g1 with e1 e2
           subst e1; subst e2
           rcases g3 with g3 | ⟨gb, rfl, rfl⟩
           · omega
           refine s_clear i hI hE hg j1 hu hz b1 x1 b3 fun a' w' hE' hI' => ?_
           have h8 : RVs (L.map Rs.pl) (l.take lo ++ (List.replicate (k1 + 1) (.dat z) ++ l.drop (lo + (k1 + 1)))) (cs.take lo ++ (List.replicate (k1 + 1) z ++ cs.drop (lo + (k1 + 1)))) := by
            have := RVs.dats (ps := L.map Rs.pl) (List.replicate (k1 + 1) z)
            rw [List.map_replicate] at this
            exact (j4.take _).app (this.app (j4.drop _))
           refine k a' w' (L.set i _) e (ext_eq (pl_set j1 ?_)) (hH.upd j1 ?_ (RO.mkR h8)) (fr _ _) hE' rfl hI' <;> rfl
         · rw [j3] at g1; cases g1
       · cases h
     · cases h
   · cases h
 · cases h
end
end Go.Proofs.YtknhbphhdfknaaaGreatDoor
