/- LatticeNil: a lattice that is none has no levels; the listed table of math/bits is tied to the program's text. Conditions: any input; none beside the statement's own. -/
import Derived.Test.YtliaopbgkcdibaaDoorCrLatticeNil
import Derived.Test.YtliaopbgkcdibaaDoorLn
import Derived.Test.YtliaopbgkcdibaaDoorCards
import Derived.Test.YtliaopbgkcdibaaDoorTie
import Derived.SevenTiedAt
namespace Go.Proofs.YtliaopbgkcdibaaDoor
open Go
theorem rowLatticeNil : Rows.LatticeNilSaid := law03_LatticeNil.row LatticeNil_law
theorem provedLatticeNil : Rows.LatticeNilCardSaid :=
  Claim7.holds_tied_plain_at .later [] [.data] true (true, "c34ca06994f25caa62875863352a8df1aade88169bc886a733c77468233445a8") false
    rowLatticeNil (fun _ h => by cases h) (by kernel_rfl) (fun _ h => by cases h) latticeNil_row_tie rfl ⟨rfl, rfl⟩ (by kernel_rfl) rfl
    (fun f fn hf hfn => by
      obtain rfl : f = 4 := Option.some.inj ((show Tryd.prog.funcNamed "cordon/cordonlaw03.LatticeNil" = some 4 by kernel_rfl).symm.trans hf) |>.symm
      obtain rfl : fn = Tryd.f4 := (Option.some.inj (Tryd.func4.symm.trans hfn)).symm
      exact ⟨by kernel_rfl, fun j t ht => by
        rw [Tryd.params4] at ht
        have hm : t ∈ [9, 3, 3] := by simpa using Array.mem_of_getElem? ht
        have hall : ([9, 3, 3].all fun u => !Tryd.prog.wantsStandIn u) = true := by kernel_rfl
        exact (show Tryd.prog.wantsStandIn t = false by simpa using List.all_eq_true.1 hall t hm)⟩)
    (by kernel_rfl)
end Go.Proofs.YtliaopbgkcdibaaDoor
