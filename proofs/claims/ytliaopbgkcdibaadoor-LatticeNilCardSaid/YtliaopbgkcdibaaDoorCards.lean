/-
  DERIVED. GIVEN WITH THE SEED: THE CARDS: each row of YtliaopbgkcdibaaDoorRows.lean that lists a variable, with what it lists TIED to the program's text (the seventh form; the later family's looks); each row that meets fmt, with fmt's text TOLD by the authors' own Lean function (tested against real Go, not proved from fmt's source: count such statements apart). THE CARD IS WHAT COUNTS. Prove the row's statement (the work); the ties are given (YtliaopbgkcdibaaDoorTie.lean); close each card by the builder's one call (the guide's Derived/Test/ToyasCard.lean, 'card_holds'). Laid BY PROGRAM, IN A SANDBOX (cutbox-door.mjs). By AI agents, Wed Nov 11 2026. No macro, syntax, notation, axiom, sorry.
-/
import Derived.Test.YtliaopbgkcdibaaDoorRows
import GoSem.ClaimSeven
namespace Go.Proofs.YtliaopbgkcdibaaDoor
namespace Rows

/-- THE TIED CARD OF 'cordonlaw03.LatticeTables'. -/
def latticeTablesCard : Claim7 := { stood := { row := latticeTablesRow, standIns := [], harness := (true, "c34ca06994f25caa62875863352a8df1aade88169bc886a733c77468233445a8"), looks := false }, kinds := [], alts := [], laidByText := true, laidKinds := [.data], laidTests := true, laidLooks := .later }
def LatticeTablesCardSaid : Prop := Claim7.holds Tryd.pinned (.plain (OpenSpec.ofChange latticeTablesSpec)) latticeTablesCard

/-- THE TIED CARD OF 'cordonlaw03.LatticeNil'. -/
def latticeNilCard : Claim7 := { stood := { row := latticeNilRow, standIns := [], harness := (true, "c34ca06994f25caa62875863352a8df1aade88169bc886a733c77468233445a8"), looks := false }, kinds := [], alts := [], laidByText := true, laidKinds := [.data], laidTests := true, laidLooks := .later }
def LatticeNilCardSaid : Prop := Claim7.holds Tryd.pinned (.plain (OpenSpec.ofChange latticeNilSpec)) latticeNilCard

/-- THE SECOND FORM's CARD OF 'cordonlaw03.LatticeTables'. -/
def latticeTablesUptoCard : Claim7 := { stood := { row := latticeTablesUptoRow, standIns := [], harness := (true, "c34ca06994f25caa62875863352a8df1aade88169bc886a733c77468233445a8"), looks := false }, kinds := [], alts := [], laidByText := true, laidKinds := [.data], laidTests := true, laidLooks := .later }
def LatticeTablesUptoCardSaid : Prop := Claim7.holds Tryd.pinned (.plain (OpenSpec.upto latticeTablesSpec)) latticeTablesUptoCard

/-- THE SECOND FORM's CARD OF 'cordonlaw03.LatticeNil'. -/
def latticeNilUptoCard : Claim7 := { stood := { row := latticeNilUptoRow, standIns := [], harness := (true, "c34ca06994f25caa62875863352a8df1aade88169bc886a733c77468233445a8"), looks := false }, kinds := [], alts := [], laidByText := true, laidKinds := [.data], laidTests := true, laidLooks := .later }
def LatticeNilUptoCardSaid : Prop := Claim7.holds Tryd.pinned (.plain (OpenSpec.upto latticeNilSpec)) latticeNilUptoCard
end Rows
end Go.Proofs.YtliaopbgkcdibaaDoor
