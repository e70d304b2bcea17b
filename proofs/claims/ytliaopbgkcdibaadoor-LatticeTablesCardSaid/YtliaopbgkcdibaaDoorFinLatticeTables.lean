/- LatticeTables: which level stands below which, the least above and the greatest below any two, and which stand above one, is as the reference says; the listed table of math/bits is tied to the program's text. Conditions: any input; none beside the statement's own. -/
import Derived.Test.YtliaopbgkcdibaaDoorCrLatticeTables
import Derived.Test.YtliaopbgkcdibaaDoorLn
import Derived.Test.YtliaopbgkcdibaaDoorCards
import Derived.Test.YtliaopbgkcdibaaDoorTie
import Derived.SevenTiedAt
namespace Go.Proofs.YtliaopbgkcdibaaDoor
open Go
theorem rowLatticeTables : Rows.LatticeTablesSaid := law03_LatticeTables.row LatticeTables_law
theorem provedLatticeTables : Rows.LatticeTablesCardSaid :=
  Claim7.holds_tied_plain_at .later [] [.data] true (true, "c34ca06994f25caa62875863352a8df1aade88169bc886a733c77468233445a8") false
    rowLatticeTables (fun _ h => by cases h) (by kernel_rfl) (fun _ h => by cases h) latticeTables_row_tie rfl ⟨rfl, rfl⟩ (by kernel_rfl) rfl
    (fun f fn hf hfn => by
      obtain rfl : f = 3 := Option.some.inj ((show Tryd.prog.funcNamed "cordon/cordonlaw03.LatticeTables" = some 3 by kernel_rfl).symm.trans hf) |>.symm
      obtain rfl : fn = Tryd.f3 := (Option.some.inj (Tryd.func3.symm.trans hfn)).symm
      exact ⟨by kernel_rfl, fun j t ht => by
        rw [Tryd.params3] at ht
        have hm : t ∈ [22, 23, 3, 3] := by simpa using Array.mem_of_getElem? ht
        have hall : ([22, 23, 3, 3].all fun u => !Tryd.prog.wantsStandIn u) = true := by kernel_rfl
        exact (show Tryd.prog.wantsStandIn t = false by simpa using List.all_eq_true.1 hall t hm)⟩)
    (by kernel_rfl)
end Go.Proofs.YtliaopbgkcdibaaDoor
