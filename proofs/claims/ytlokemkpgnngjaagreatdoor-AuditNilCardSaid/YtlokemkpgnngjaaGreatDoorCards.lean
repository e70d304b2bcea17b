/-
  DERIVED. GIVEN WITH THE SEED: THE CARDS: each row of YtlokemkpgnngjaaGreatDoorRows.lean that lists a variable, with what it lists TIED to the program's text (the seventh form; the later family's looks); each row that meets fmt, with fmt's text TOLD by the authors' own Lean function (tested against real Go, not proved from fmt's source: count such statements apart). THE CARD IS WHAT COUNTS. Prove the row's statement (the work); the ties are given (YtlokemkpgnngjaaGreatDoorTie.lean); close each card by the builder's one call (the guide's Derived/Test/ToyasCard.lean, 'card_holds'). Laid BY PROGRAM, IN A SANDBOX (cutbox-door.mjs). By AI agents, Wed Nov 11 2026. No macro, syntax, notation, axiom, sorry.
-/
import Derived.Test.YtlokemkpgnngjaaGreatDoorRows
import GoSem.ClaimSeven
namespace Go.Proofs.YtlokemkpgnngjaaGreatDoor
namespace Rows

/-- THE TIED CARD OF 'cordonlaw17.LabelsNil'. -/
def labelsNilCard : Claim7 := { stood := { row := labelsNilRow, standIns := [], harness := (true, "475bb34caa52d454b32e1e8b6a93106a35c66b3e1d3b4ec09a937709994598c0"), looks := false }, kinds := [], alts := [], laidByText := true, laidKinds := [.data, .data, .data, .data, .pinned], laidTests := true, laidLooks := .later }
def LabelsNilCardSaid : Prop := Claim7.holds Tryz.pinned (.plain (OpenSpec.ofChange labelsNilSpec)) labelsNilCard

/-- THE TIED CARD OF 'cordonlaw10.AlgebraTotal'. -/
def algebraTotalCard : Claim7 := { stood := { row := algebraTotalRow, standIns := [], harness := (true, "475bb34caa52d454b32e1e8b6a93106a35c66b3e1d3b4ec09a937709994598c0"), looks := false }, kinds := [], alts := [], laidByText := true, laidKinds := [.data, .data, .data, .data, .pinned], laidTests := true, laidLooks := .later }
def AlgebraTotalCardSaid : Prop := Claim7.holds Tryz.pinned (.plain (OpenSpec.ofChange algebraTotalSpec)) algebraTotalCard

/-- THE TIED CARD OF 'cordonlaw22.AuditNil'. -/
def auditNilCard : Claim7 := { stood := { row := auditNilRow, standIns := [], harness := (true, "475bb34caa52d454b32e1e8b6a93106a35c66b3e1d3b4ec09a937709994598c0"), looks := false }, kinds := [], alts := [], laidByText := true, laidKinds := [.data, .data, .data, .data, .pinned], laidTests := true, laidLooks := .later }
def AuditNilCardSaid : Prop := Claim7.holds Tryz.pinned (.plain (OpenSpec.ofChange auditNilSpec)) auditNilCard

/-- THE TIED CARD OF 'cordonlaw14.ChangeNil'. -/
def changeNilCard : Claim7 := { stood := { row := changeNilRow, standIns := [], harness := (true, "475bb34caa52d454b32e1e8b6a93106a35c66b3e1d3b4ec09a937709994598c0"), looks := false }, kinds := [], alts := [], laidByText := true, laidKinds := [.data, .data, .data, .data, .pinned], laidTests := true, laidLooks := .later }
def ChangeNilCardSaid : Prop := Claim7.holds Tryz.pinned (.plain (OpenSpec.ofChange changeNilSpec)) changeNilCard

/-- THE SECOND FORM's CARD OF 'cordonlaw17.LabelsNil'. -/
def labelsNilUptoCard : Claim7 := { stood := { row := labelsNilUptoRow, standIns := [], harness := (true, "475bb34caa52d454b32e1e8b6a93106a35c66b3e1d3b4ec09a937709994598c0"), looks := false }, kinds := [], alts := [], laidByText := true, laidKinds := [.data, .data, .data, .data, .pinned], laidTests := true, laidLooks := .later }
def LabelsNilUptoCardSaid : Prop := Claim7.holds Tryz.pinned (.plain (OpenSpec.upto labelsNilSpec)) labelsNilUptoCard

/-- THE SECOND FORM's CARD OF 'cordonlaw10.AlgebraTotal'. -/
def algebraTotalUptoCard : Claim7 := { stood := { row := algebraTotalUptoRow, standIns := [], harness := (true, "475bb34caa52d454b32e1e8b6a93106a35c66b3e1d3b4ec09a937709994598c0"), looks := false }, kinds := [], alts := [], laidByText := true, laidKinds := [.data, .data, .data, .data, .pinned], laidTests := true, laidLooks := .later }
def AlgebraTotalUptoCardSaid : Prop := Claim7.holds Tryz.pinned (.plain (OpenSpec.upto algebraTotalSpec)) algebraTotalUptoCard

/-- THE SECOND FORM's CARD OF 'cordonlaw22.AuditNil'. -/
def auditNilUptoCard : Claim7 := { stood := { row := auditNilUptoRow, standIns := [], harness := (true, "475bb34caa52d454b32e1e8b6a93106a35c66b3e1d3b4ec09a937709994598c0"), looks := false }, kinds := [], alts := [], laidByText := true, laidKinds := [.data, .data, .data, .data, .pinned], laidTests := true, laidLooks := .later }
def AuditNilUptoCardSaid : Prop := Claim7.holds Tryz.pinned (.plain (OpenSpec.upto auditNilSpec)) auditNilUptoCard

/-- THE SECOND FORM's CARD OF 'cordonlaw14.ChangeNil'. -/
def changeNilUptoCard : Claim7 := { stood := { row := changeNilUptoRow, standIns := [], harness := (true, "475bb34caa52d454b32e1e8b6a93106a35c66b3e1d3b4ec09a937709994598c0"), looks := false }, kinds := [], alts := [], laidByText := true, laidKinds := [.data, .data, .data, .data, .pinned], laidTests := true, laidLooks := .later }
def ChangeNilUptoCardSaid : Prop := Claim7.holds Tryz.pinned (.plain (OpenSpec.upto changeNilSpec)) changeNilUptoCard
end Rows
end Go.Proofs.YtlokemkpgnngjaaGreatDoor
