/- ChangeNil: without a store nothing is changed; whatever the input. -/
import Derived.Test.YtlokemkpgnngjaaGreatDoorCrChangeNil
import Derived.Test.YtlokemkpgnngjaaGreatDoorNb
import Derived.Test.YtlokemkpgnngjaaGreatDoorCards
import Derived.Test.YtlokemkpgnngjaaGreatDoorTie
import Derived.SevenTiedAt
namespace Go.Proofs.YtlokemkpgnngjaaGreatDoor
open Go
theorem rowChangeNil : Rows.ChangeNilSaid := law14_ChangeNil.row ChangeNil_law
theorem looksChangeNil : false = Tryz.prog.looks [] := by kernel_rfl
theorem goesChangeNil : false = Rows.changeNilRow.goesBy Tryz.prog := by kernel_rfl
theorem mainChangeNil : Tryz.prog.mainIs = some (((true, "475bb34caa52d454b32e1e8b6a93106a35c66b3e1d3b4ec09a937709994598c0")).1, ((true, "475bb34caa52d454b32e1e8b6a93106a35c66b3e1d3b4ec09a937709994598c0")).2.toList) := by kernel_rfl
theorem wantsChangeNil : ([3, 22, 30].all fun u => !Tryz.prog.wantsStandIn u) = true := by kernel_rfl
theorem namedChangeNil : Tryz.prog.funcNamed "cordon/cordonlaw14.ChangeNil" = some 6 := by kernel_rfl
theorem wfChangeNil : Rows.changeNilRow.wfByText (OpenSpec.ofChange Rows.changeNilSpec) = true := by kernel_rfl
theorem provedChangeNil : Rows.ChangeNilCardSaid :=
  Claim7.holds_tied_plain_at .later [] [.data, .data, .data, .data, .pinned] true (true, "475bb34caa52d454b32e1e8b6a93106a35c66b3e1d3b4ec09a937709994598c0") false
    rowChangeNil (fun _ h => by cases h) wfChangeNil (fun _ h => by cases h) changeNil_row_tie rfl ⟨rfl, rfl⟩ mainChangeNil rfl
    (fun f fn hf hfn => by
      obtain rfl : f = 6 := Option.some.inj (namedChangeNil.symm.trans hf) |>.symm
      obtain rfl : fn = Tryz.f6 := (Option.some.inj (Tryz.func6.symm.trans hfn)).symm
      exact ⟨looksChangeNil, fun j t ht => by
        rw [Tryz.params6] at ht
        have hm : t ∈ [3, 22, 30] := by simpa using Array.mem_of_getElem? ht
        exact (show Tryz.prog.wantsStandIn t = false by simpa using List.all_eq_true.1 wantsChangeNil t hm)⟩)
    goesChangeNil
end Go.Proofs.YtlokemkpgnngjaaGreatDoor
