/- The library's sort of integers, given a row of one's own: the same row, sorted, is one's own behind it. No program in sight. -/
import Derived.Test.YtlokemkpgnngjaaGreatDoorCxE
import Derived.Sort.OwnSortedInts
import Derived.Lib.SlicesCompact
import Derived.Lib.RowBridge
set_option linter.unusedVariables false
namespace Go.Proofs.YtlokemkpgnngjaaGreatDoor
open Go.RowKit
variable {P : Program} {f : FuncId} {w0 w : World} {G0 G : GH} {D0 : List Nat} {L : List Rs}
/-- What the shelf says of slices.Sort at int (Any.slices_Sort_int, and of no element). -/
def SortC (P : Program) (f : FuncId) : Prop :=
  (∀ (blk off cap : Nat) (zs : List Int) (w : World), Sort.Holds (Value.int .i64) w blk off zs.toArray → blk < w.heap.size → zs.length < 4611686018427387904 →
    Calls P f #[.slice (some ⟨blk, off, none⟩) zs.length cap] w fun e w' => e = .returned (.tuple #[]) ∧ ∃ n os, w' = Sort.grow (Sort.putRow (Value.int .i64) (Sort.ahead w n) blk off (zs.mergeSort fun x y => decide (x ≤ y)).toArray) os) ∧
  ∀ (p : Option Addr) (cap : Nat) (w : World), Calls P f #[.slice p 0 cap] w fun e w' => e = .returned (.tuple #[]) ∧ w' = w
theorem SortC.own (hS : SortC P f) {i te m : Nat} {v : Value} {zs : List Int} (hI : Inv w0 G0 D0 G L w) (hL : L[i]? = some (.row v te 1 m (zs.map (Value.int .i64)))) (hl : zs.length ≤ 4294967296) :
    Calls P f #[v] w fun e w' => e = .returned (.tuple #[]) ∧ Inv w0 G0 D0 G (L.set i (.row v te 1 m ((zs.mergeSort fun x y => decide (x ≤ y)).map (Value.int .i64)))) w' := by
  have hown : w.ownsRow 0 te 1 v m (zs.map (Value.int .i64)) := hI.ok _ (List.mem_of_getElem? hL)
  have hz : zs.length = m := by simpa using hown.1
  rcases hown.2 with ⟨rfl, rfl⟩ | ⟨g, cap, cur, rfl, hbg, hgg, h1, h2, h3, h4⟩
  · obtain rfl : zs = [] := List.length_eq_zero_iff.1 hz
    refine (hS.2 none 0 w).mono ?_
    rintro e w' ⟨rfl, rfl⟩
    refine ⟨rfl, ?_⟩
    obtain ⟨hi, he⟩ := List.getElem?_eq_some_iff.1 hL
    have : L.set i (.row (.slice none 0 0) te 1 0 (([] : List Int).map (Value.int .i64))) = L := by rw [← he]; exact List.set_getElem_self hi
    show Inv w0 G0 D0 G (L.set i (.row (.slice none 0 0) te 1 0 ((([] : List Int).mergeSort fun x y => decide (x ≤ y)).map (Value.int .i64)))) w'
    rw [List.mergeSort_nil, this]; exact hI
  · subst hz
    refine (hS.1 g 0 cap zs w (holds_of_blockI hgg (by simpa using h4)) (Array.getElem?_eq_some_iff.1 hgg).1 (by omega)).mono ?_
    rintro e w' ⟨rfl, n, os, rfl⟩
    have hg := grownBy_sortedI (w := w) (g := g) (n := n) (os := os) (zs.mergeSort fun x y => decide (x ≤ y)).toArray
    refine ⟨rfl, hI.turn i hL _ rfl rfl rfl (by simp) (fun k hk hne => hg.5 k hk (fun e => hne (by simp [Rs.foot, Value.ownBlock, ← e]))) ?_ (.inl rfl)⟩
    exact ownsRow_sortedI (by simp) hbg hgg h1 h2 h3
/-- What the shelf says of slices.Compact at int. -/
def CompactC (P : Program) (f : FuncId) : Prop :=
  (∀ (blk off cap : Nat) (zs : List Int) (w : World), Sort.Holds (Value.int .i64) w blk off zs.toArray → zs.length ≤ 9223372036854775807 → zs.length ≤ cap →
    Calls P f #[.slice (some ⟨blk, off, none⟩) zs.length cap] w fun e w' => e = .returned (.slice (some ⟨blk, off, none⟩) (Lib.compact zs).length cap) ∧ ∃ q, w' = Sort.putRow (Value.int .i64) (Sort.ahead w q) blk off (Lib.compact zs ++ List.replicate (zs.length - (Lib.compact zs).length) 0).toArray) ∧
  ∀ (p : Option Addr) (cap : Nat) (w : World), Calls P f #[.slice p 0 cap] w fun e w' => e = .returned (.slice p 0 cap) ∧ w' = w
theorem CompactC.own (hS : CompactC P f) {i te m : Nat} {v : Value} {zs : List Int} (hI : Inv w0 G0 D0 G L w) (hL : L[i]? = some (.row v te 1 m (zs.map (Value.int .i64)))) :
    Calls P f #[v] w fun e w' => ∃ v', e = .returned v' ∧ Inv w0 G0 D0 G (L.set i (.row v' te 1 (Lib.compact zs).length ((Lib.compact zs).map (Value.int .i64)))) w' := by
  have hown : w.ownsRow 0 te 1 v m (zs.map (Value.int .i64)) := hI.ok _ (List.mem_of_getElem? hL)
  have hz : zs.length = m := by simpa using hown.1
  rcases hown.2 with ⟨rfl, rfl⟩ | ⟨g, cap, cur, rfl, hbg, hgg, h1, h2, h3, h4⟩
  · obtain rfl : zs = [] := List.length_eq_zero_iff.1 hz
    refine (hS.2 none 0 w).mono ?_
    rintro e w' ⟨rfl, rfl⟩
    refine ⟨_, rfl, ?_⟩
    obtain ⟨hi, he⟩ := List.getElem?_eq_some_iff.1 hL
    have : L.set i (.row (.slice none 0 0) te 1 0 (([] : List Int).map (Value.int .i64))) = L := by rw [← he]; exact List.set_getElem_self hi
    have hc : Lib.compact ([] : List Int) = [] := List.length_eq_zero_iff.1 (Nat.le_zero.1 (Lib.compact_length_le []))
    rw [hc]
    show Inv w0 G0 D0 G (L.set i (.row (.slice none 0 0) te 1 0 (([] : List Int).map (Value.int .i64)))) w'
    rw [this]; exact hI
  · subst hz
    have hle := Lib.compact_length_le zs
    refine (hS.1 g 0 cap zs w (holds_of_blockI hgg (by simpa using h4)) (by unfold maxLen at h2; omega) h1).mono ?_
    rintro e w' ⟨rfl, n, rfl⟩
    have h0 : Sort.putRow (Value.int .i64) (Sort.ahead w n) g 0 (Lib.compact zs ++ List.replicate (zs.length - (Lib.compact zs).length) 0).toArray = Sort.grow (Sort.putRow (Value.int .i64) (Sort.ahead w n) g 0 (Lib.compact zs ++ List.replicate (zs.length - (Lib.compact zs).length) 0).toArray) #[] := by simp
    rw [h0]
    have hg := grownBy_sortedI (w := w) (g := g) (n := n) (os := #[]) (Lib.compact zs ++ List.replicate (zs.length - (Lib.compact zs).length) 0).toArray
    have hls : (Lib.compact zs ++ List.replicate (zs.length - (Lib.compact zs).length) 0).length = zs.length := by simp; omega
    have hcs : cur.toList.length = cap * 1 := by simpa using h3
    have hlz : (Lib.compact zs ++ List.replicate (zs.length - (Lib.compact zs).length) 0).length ≤ cur.size := by rw [hls, h3]; omega
    have ht := take_putCellsI cur (Lib.compact zs ++ List.replicate (zs.length - (Lib.compact zs).length) 0) hlz
    refine ⟨_, rfl, hI.turn i hL _ rfl rfl rfl (by simp) (fun k hk hne => hg.5 k hk (fun e => hne (by simp [Rs.foot, Value.ownBlock, ← e]))) ?_ (.inl rfl)⟩
    refine ⟨by simp, .inr ⟨g, cap, _, rfl, hbg, heap_sortedI _ hgg, by omega, h2, by simp [Sort.putCells, h3], ?_⟩⟩
    rw [hls] at ht
    have := congrArg (List.take (Lib.compact zs).length) ht
    rw [List.take_take, Nat.min_eq_left hle, List.map_append, List.take_left' (by simp)] at this
    simpa using this
/-- The same as a call that is given the row and hands it back. -/
theorem SortC.ret (hS : SortC P f) {G : GH} {D : List Nat} {te m : Nat} {v : Value} {zs : List Int} (hI : Inv w G D G [.row v te 1 m (zs.map (Value.int .i64))] w) (hl : zs.length ≤ 4294967296) :
    Calls P f #[v] w (Ret w G D fun G' L' r => L' = [.row v te 1 m ((zs.mergeSort fun x y => decide (x ≤ y)).map (Value.int .i64))] ∧ r = .tuple #[]) := by
  refine (hS.own (i := 0) hI rfl hl).mono ?_
  rintro e w' ⟨rfl, h⟩
  exact ⟨_, G, _, rfl, h, rfl, rfl⟩
theorem CompactC.ret (hS : CompactC P f) {G : GH} {D : List Nat} {te m : Nat} {v : Value} {zs : List Int} (hI : Inv w G D G [.row v te 1 m (zs.map (Value.int .i64))] w) :
    Calls P f #[v] w (Ret w G D fun G' L' r => L' = [.row r te 1 (Lib.compact zs).length ((Lib.compact zs).map (Value.int .i64))]) := by
  refine (hS.own (i := 0) hI rfl).mono ?_
  rintro e w' ⟨v', rfl, h⟩
  exact ⟨_, G, _, rfl, h, rfl⟩
theorem rl_ints {G : GH} : ∀ {l : List Int} {cs : List Value}, RL G 1 (l.map (D.int .i64)) cs ↔ cs = l.map (Value.int .i64)
  | [], cs => by simp only [List.map_nil, RL]
  | x :: l, cs => by
    simp only [List.map_cons, RL]
    constructor
    · rintro ⟨c1, c2, rfl, _, h, k⟩
      rw [rep_int.1 h, rl_ints.1 k]; rfl
    · rintro rfl
      exact ⟨[_], _, rfl, rfl, rep_int.2 rfl, rl_ints.2 rfl⟩
/-- Sort, in the form of the printed contracts: the row comes back under the same slice. -/
theorem SortC.c (hS : SortC P f) {G : GH} {D9 : List Nat} {te : Nat} {A : Option Addr} {c : Nat} {cs : List Value} {b r : List Int} (hF : ((lim b.length).bind fun _ => some (b.mergeSort fun x y => decide (x ≤ y))) = some r)
    (hI : Inv w G D9 G [.row (.slice A b.length c) te 1 b.length cs] w) (hR : RL G 1 (b.map (D.int .i64)) cs) :
    Calls P f #[.slice A b.length c] w (Ret w G D9 fun G' L' v => ∃ cs', L' = [.row (.slice A r.length c) te 1 r.length cs'] ∧ v = .tuple ⟨[]⟩ ∧ RL G' 1 (r.map (D.int .i64)) cs' ∧ b.length = r.length) := by
  obtain ⟨_, hl, h⟩ := Option.bind_eq_some_iff.1 hF
  cases h
  have hl : b.length ≤ 4294967296 := by
    unfold lim at hl
    split at hl
    · assumption
    · cases hl
  obtain rfl := rl_ints.1 hR
  have hln : (b.mergeSort fun x y => decide (x ≤ y)).length = b.length := by simp
  rw [hln]
  refine (hS.ret hI hl).mono ?_
  rintro e w' ⟨v, G', L', rfl, hI', rfl, rfl⟩
  exact ⟨_, G', _, rfl, hI', _, rfl, rfl, rl_ints.2 rfl, rfl⟩
/-- Compact, in the form of the printed contracts: its result is one's own. -/
theorem CompactC.c (hS : CompactC P f) {G : GH} {D9 : List Nat} {te : Nat} {A : Option Addr} {c : Nat} {cs : List Value} {b r : List Int} (hF : some (Lib.compact b) = some r)
    (hI : Inv w G D9 G [.row (.slice A b.length c) te 1 b.length cs] w) (hR : RL G 1 (b.map (D.int .i64)) cs) :
    Calls P f #[.slice A b.length c] w (Ret w G D9 fun G' L' v => ∃ A' c' cs', L' = [.row (.slice A' r.length c') te 1 r.length cs'] ∧ v = .slice A' r.length c' ∧ RL G' 1 (r.map (D.int .i64)) cs') := by
  cases hF
  obtain rfl := rl_ints.1 hR
  refine (hS.ret hI).mono ?_
  rintro e w' ⟨v, G', L', rfl, hI', rfl⟩
  have hown : w'.ownsRow 0 te 1 v (Lib.compact b).length ((Lib.compact b).map (Value.int .i64)) := hI'.ok _ (List.mem_singleton.2 rfl)
  have hv : ∃ A' c', v = .slice A' (Lib.compact b).length c' := by
    rcases hown.2 with ⟨rfl, h0⟩ | ⟨g, cap, cur, rfl, _⟩
    · exact ⟨none, 0, by rw [h0]⟩
    · exact ⟨_, _, rfl⟩
  obtain ⟨A', c', rfl⟩ := hv
  exact ⟨_, G', _, rfl, hI', A', c', _, rfl, rfl, rl_ints.2 rfl⟩
end Go.Proofs.YtlokemkpgnngjaaGreatDoor
