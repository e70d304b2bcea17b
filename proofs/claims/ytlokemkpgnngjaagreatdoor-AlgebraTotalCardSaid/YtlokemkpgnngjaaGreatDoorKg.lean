/- What is known of some calls of closed functions. Written by mach.py. -/
import Derived.Test.YtlokemkpgnngjaaGreatDoorKc
import Derived.Test.YtlokemkpgnngjaaGreatDoorKe
import Derived.Test.YtlokemkpgnngjaaGreatDoorOa
import Derived.Test.YtlokemkpgnngjaaGreatDoorKx
import Derived.Test.YtlokemkpgnngjaaGreatDoorCxT
set_option maxRecDepth 100000
namespace Go.Proofs.YtlokemkpgnngjaaGreatDoor
open Go.RowKit
def ktKg : List (Nat × List (List AV × Kn)) := [(36, [([ns [97]], Kc_0)]),
  (37, [([ns [115, 101, 108, 101, 99, 116, 32, 97, 32, 97, 115, 32, 120, 32, 102, 114, 111, 109, 32, 116, 32, 119, 104, 101, 114, 101, 32, 97, 32, 62, 32, 49]], Ke_0)])]
def kmKg : List (Nat × List Kp) := []
theorem ktKg_ok : KsOk Tryz.prog ktKg := ⟨List.forall_mem_cons.2 ⟨Kc_0_ok, by simp⟩, List.forall_mem_cons.2 ⟨Ke_0_ok, by simp⟩, trivial⟩
theorem kmKg_ok : KmOk Tryz.prog kmKg := trivial
def Kg_0 : Kn := ⟨760, [], nb true⟩
theorem Kg_0_ok : KOk1 Tryz.prog 13 [] Kg_0 := ran_ok (OT := OT) (k := 50000) (is := []) tt_ok rfl (kx_ok ktKg_ok kmKg_ok) (by kernel_rfl) rfl
end Go.Proofs.YtlokemkpgnngjaaGreatDoor
