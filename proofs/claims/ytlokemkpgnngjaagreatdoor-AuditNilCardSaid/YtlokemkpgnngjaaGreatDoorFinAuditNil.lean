/- AuditNil: without a catalog, or a store, nothing is open; whatever the input. -/
import Derived.Test.YtlokemkpgnngjaaGreatDoorCrAuditNil
import Derived.Test.YtlokemkpgnngjaaGreatDoorNc
import Derived.Test.YtlokemkpgnngjaaGreatDoorCards
import Derived.Test.YtlokemkpgnngjaaGreatDoorTie
import Derived.SevenTiedAt
namespace Go.Proofs.YtlokemkpgnngjaaGreatDoor
open Go
theorem rowAuditNil : Rows.AuditNilSaid := law22_AuditNil.row AuditNil_law
theorem looksAuditNil : false = Tryz.prog.looks [] := by kernel_rfl
theorem goesAuditNil : false = Rows.auditNilRow.goesBy Tryz.prog := by kernel_rfl
theorem mainAuditNil : Tryz.prog.mainIs = some (((true, "475bb34caa52d454b32e1e8b6a93106a35c66b3e1d3b4ec09a937709994598c0")).1, ((true, "475bb34caa52d454b32e1e8b6a93106a35c66b3e1d3b4ec09a937709994598c0")).2.toList) := by kernel_rfl
theorem wantsAuditNil : ([9, 3, 30].all fun u => !Tryz.prog.wantsStandIn u) = true := by kernel_rfl
theorem namedAuditNil : Tryz.prog.funcNamed "cordon/cordonlaw22.AuditNil" = some 5 := by kernel_rfl
theorem wfAuditNil : Rows.auditNilRow.wfByText (OpenSpec.ofChange Rows.auditNilSpec) = true := by kernel_rfl
theorem provedAuditNil : Rows.AuditNilCardSaid :=
  Claim7.holds_tied_plain_at .later [] [.data, .data, .data, .data, .pinned] true (true, "475bb34caa52d454b32e1e8b6a93106a35c66b3e1d3b4ec09a937709994598c0") false
    rowAuditNil (fun _ h => by cases h) wfAuditNil (fun _ h => by cases h) auditNil_row_tie rfl ⟨rfl, rfl⟩ mainAuditNil rfl
    (fun f fn hf hfn => by
      obtain rfl : f = 5 := Option.some.inj (namedAuditNil.symm.trans hf) |>.symm
      obtain rfl : fn = Tryz.f5 := (Option.some.inj (Tryz.func5.symm.trans hfn)).symm
      exact ⟨looksAuditNil, fun j t ht => by
        rw [Tryz.params5] at ht
        have hm : t ∈ [9, 3, 30] := by simpa using Array.mem_of_getElem? ht
        exact (show Tryz.prog.wantsStandIn t = false by simpa using List.all_eq_true.1 wantsAuditNil t hm)⟩)
    goesAuditNil
end Go.Proofs.YtlokemkpgnngjaaGreatDoor
