/- LabelsNil: without a catalog there are no levels; whatever the input. -/
import Derived.Test.YtlokemkpgnngjaaGreatDoorCrLabelsNil
import Derived.Test.YtlokemkpgnngjaaGreatDoorNb
import Derived.Test.YtlokemkpgnngjaaGreatDoorCards
import Derived.Test.YtlokemkpgnngjaaGreatDoorTie
import Derived.SevenTiedAt
namespace Go.Proofs.YtlokemkpgnngjaaGreatDoor
open Go
theorem rowLabelsNil : Rows.LabelsNilSaid := law17_LabelsNil.row LabelsNil_law
theorem looksLabelsNil : false = Tryz.prog.looks [] := by kernel_rfl
theorem goesLabelsNil : false = Rows.labelsNilRow.goesBy Tryz.prog := by kernel_rfl
theorem mainLabelsNil : Tryz.prog.mainIs = some (((true, "475bb34caa52d454b32e1e8b6a93106a35c66b3e1d3b4ec09a937709994598c0")).1, ((true, "475bb34caa52d454b32e1e8b6a93106a35c66b3e1d3b4ec09a937709994598c0")).2.toList) := by kernel_rfl
theorem wantsLabelsNil : ([25, 30, 3, 3].all fun u => !Tryz.prog.wantsStandIn u) = true := by kernel_rfl
theorem namedLabelsNil : Tryz.prog.funcNamed "cordon/cordonlaw17.LabelsNil" = some 3 := by kernel_rfl
theorem wfLabelsNil : Rows.labelsNilRow.wfByText (OpenSpec.ofChange Rows.labelsNilSpec) = true := by kernel_rfl
theorem provedLabelsNil : Rows.LabelsNilCardSaid :=
  Claim7.holds_tied_plain_at .later [] [.data, .data, .data, .data, .pinned] true (true, "475bb34caa52d454b32e1e8b6a93106a35c66b3e1d3b4ec09a937709994598c0") false
    rowLabelsNil (fun _ h => by cases h) wfLabelsNil (fun _ h => by cases h) labelsNil_row_tie rfl ⟨rfl, rfl⟩ mainLabelsNil rfl
    (fun f fn hf hfn => by
      obtain rfl : f = 3 := Option.some.inj (namedLabelsNil.symm.trans hf) |>.symm
      obtain rfl : fn = Tryz.f3 := (Option.some.inj (Tryz.func3.symm.trans hfn)).symm
      exact ⟨looksLabelsNil, fun j t ht => by
        rw [Tryz.params3] at ht
        have hm : t ∈ [25, 30, 3, 3] := by simpa using Array.mem_of_getElem? ht
        exact (show Tryz.prog.wantsStandIn t = false by simpa using List.all_eq_true.1 wantsLabelsNil t hm)⟩)
    goesLabelsNil
end Go.Proofs.YtlokemkpgnngjaaGreatDoor
