/-
  DERIVED. GIVEN WITH THE SEED: THE CARDS: each row of YtknhbphhdfknaaaGreatDoorRows.lean that lists a variable, with what it lists TIED to the program's text (the seventh form; the later family's looks); each row that meets fmt, with fmt's text TOLD by the authors' own Lean function (tested against real Go, not proved from fmt's source: count such statements apart). THE CARD IS WHAT COUNTS. Prove the row's statement (the work); the ties are given (YtknhbphhdfknaaaGreatDoorTie.lean); close each card by the builder's one call (the guide's Derived/Test/ToyasCard.lean, 'card_holds'). Laid BY PROGRAM, IN A SANDBOX (cutbox-door.mjs). By AI agents, Wed Nov 11 2026. No macro, syntax, notation, axiom, sorry.
-/
import Derived.Test.YtknhbphhdfknaaaGreatDoorRows
import GoSem.ClaimSeven
namespace Go.Proofs.YtknhbphhdfknaaaGreatDoor
namespace Rows

/-- THE TIED CARD OF 'cordonlaw17.LabelsTables'. -/
def labelsTablesCard : Claim7 := { stood := { row := labelsTablesRow, standIns := [], harness := (true, "bfa43eec5b1e5a29072b2e402fa04795eb0a133b84562386b9df2791c89923c6"), looks := false }, kinds := [], alts := [], laidByText := true, laidKinds := [.data, .data, .data, .data, .pinned], laidTests := true, laidLooks := .later }
def LabelsTablesCardSaid : Prop := Claim7.holds Tryz.pinned (.plain (OpenSpec.ofChange labelsTablesSpec)) labelsTablesCard

/-- THE TIED CARD OF 'cordonlaw22.AuditTells'. -/
def auditTellsCard : Claim7 := { stood := { row := auditTellsRow, standIns := [], harness := (true, "bfa43eec5b1e5a29072b2e402fa04795eb0a133b84562386b9df2791c89923c6"), looks := false }, kinds := [], alts := [], laidByText := true, laidKinds := [.data, .data, .data, .data, .pinned], laidTests := true, laidLooks := .later }
def AuditTellsCardSaid : Prop := Claim7.holds Tryz.pinned (.plain (OpenSpec.ofChange auditTellsSpec)) auditTellsCard

/-- THE SECOND FORM's CARD OF 'cordonlaw17.LabelsTables'. -/
def labelsTablesUptoCard : Claim7 := { stood := { row := labelsTablesUptoRow, standIns := [], harness := (true, "bfa43eec5b1e5a29072b2e402fa04795eb0a133b84562386b9df2791c89923c6"), looks := false }, kinds := [], alts := [], laidByText := true, laidKinds := [.data, .data, .data, .data, .pinned], laidTests := true, laidLooks := .later }
def LabelsTablesUptoCardSaid : Prop := Claim7.holds Tryz.pinned (.plain (OpenSpec.upto labelsTablesSpec)) labelsTablesUptoCard

/-- THE SECOND FORM's CARD OF 'cordonlaw22.AuditTells'. -/
def auditTellsUptoCard : Claim7 := { stood := { row := auditTellsUptoRow, standIns := [], harness := (true, "bfa43eec5b1e5a29072b2e402fa04795eb0a133b84562386b9df2791c89923c6"), looks := false }, kinds := [], alts := [], laidByText := true, laidKinds := [.data, .data, .data, .data, .pinned], laidTests := true, laidLooks := .later }
def AuditTellsUptoCardSaid : Prop := Claim7.holds Tryz.pinned (.plain (OpenSpec.upto auditTellsSpec)) auditTellsUptoCard
end Rows
end Go.Proofs.YtknhbphhdfknaaaGreatDoor
