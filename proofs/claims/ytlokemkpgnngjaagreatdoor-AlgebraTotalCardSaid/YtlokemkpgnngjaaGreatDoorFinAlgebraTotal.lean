/- AlgebraTotal: what is put together of nodes that can raise nothing can raise nothing, and it uses what they use; whatever the input. -/
import Derived.Test.YtlokemkpgnngjaaGreatDoorCrAlgebraTotal
import Derived.Test.YtlokemkpgnngjaaGreatDoorAc
import Derived.Test.YtlokemkpgnngjaaGreatDoorCards
import Derived.Test.YtlokemkpgnngjaaGreatDoorTie
import Derived.SevenTiedAt
namespace Go.Proofs.YtlokemkpgnngjaaGreatDoor
open Go
theorem rowAlgebraTotal : Rows.AlgebraTotalSaid := law10_AlgebraTotal.row AlgebraTotal_law
theorem looksAlgebraTotal : false = Tryz.prog.looks [] := by kernel_rfl
theorem goesAlgebraTotal : false = Rows.algebraTotalRow.goesBy Tryz.prog := by kernel_rfl
theorem mainAlgebraTotal : Tryz.prog.mainIs = some (((true, "475bb34caa52d454b32e1e8b6a93106a35c66b3e1d3b4ec09a937709994598c0")).1, ((true, "475bb34caa52d454b32e1e8b6a93106a35c66b3e1d3b4ec09a937709994598c0")).2.toList) := by kernel_rfl
theorem wantsAlgebraTotal : ([25, 25].all fun u => !Tryz.prog.wantsStandIn u) = true := by kernel_rfl
theorem namedAlgebraTotal : Tryz.prog.funcNamed "cordon/cordonlaw10.AlgebraTotal" = some 4 := by kernel_rfl
theorem wfAlgebraTotal : Rows.algebraTotalRow.wfByText (OpenSpec.ofChange Rows.algebraTotalSpec) = true := by kernel_rfl
theorem provedAlgebraTotal : Rows.AlgebraTotalCardSaid :=
  Claim7.holds_tied_plain_at .later [] [.data, .data, .data, .data, .pinned] true (true, "475bb34caa52d454b32e1e8b6a93106a35c66b3e1d3b4ec09a937709994598c0") false
    rowAlgebraTotal (fun _ h => by cases h) wfAlgebraTotal (fun _ h => by cases h) algebraTotal_row_tie rfl ⟨rfl, rfl⟩ mainAlgebraTotal rfl
    (fun f fn hf hfn => by
      obtain rfl : f = 4 := Option.some.inj (namedAlgebraTotal.symm.trans hf) |>.symm
      obtain rfl : fn = Tryz.f4 := (Option.some.inj (Tryz.func4.symm.trans hfn)).symm
      exact ⟨looksAlgebraTotal, fun j t ht => by
        rw [Tryz.params4] at ht
        have hm : t ∈ [25, 25] := by simpa using Array.mem_of_getElem? ht
        exact (show Tryz.prog.wantsStandIn t = false by simpa using List.all_eq_true.1 wantsAlgebraTotal t hm)⟩)
    goesAlgebraTotal
end Go.Proofs.YtlokemkpgnngjaaGreatDoor
