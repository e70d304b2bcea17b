/- What is known of some calls of closed functions. Written by mach.py. -/
import Derived.Test.YtlokemkpgnngjaaGreatDoorKh
import Derived.Test.YtlokemkpgnngjaaGreatDoorKi
import Derived.Test.YtlokemkpgnngjaaGreatDoorOa
import Derived.Test.YtlokemkpgnngjaaGreatDoorKx
import Derived.Test.YtlokemkpgnngjaaGreatDoorCxT
set_option maxRecDepth 100000
namespace Go.Proofs.YtlokemkpgnngjaaGreatDoor
open Go.RowKit
def ktKj : List (Nat × List (List AV × Kn)) := [(62, [([ns [108, 101, 118, 101, 108, 115, 32, 108, 111, 119, 59, 32, 116, 97, 98, 108, 101, 32, 116, 32, 114, 111, 119, 115, 32, 108, 111, 119, 32, 40, 97, 32, 105, 110, 116, 32, 108, 111, 119, 44, 32, 98, 32, 105, 110, 116, 32, 108, 111, 119, 41, 32, 107, 101, 121, 32, 40, 97, 41, 59]], Kh_0)]),
  (66, [([ns [98, 32, 43, 32, 49]], Ki_0), ([ns [97, 32, 61, 32, 49]], Ki_1)])]
def kmKj : List (Nat × List Kp) := []
theorem ktKj_ok : KsOk Tryz.prog ktKj := ⟨List.forall_mem_cons.2 ⟨Kh_0_ok, by simp⟩, List.forall_mem_cons.2 ⟨Ki_0_ok, List.forall_mem_cons.2 ⟨Ki_1_ok, by simp⟩⟩, trivial⟩
theorem kmKj_ok : KmOk Tryz.prog kmKj := trivial
def Kj_0 : Kn := ⟨697, [], nb true⟩
theorem Kj_0_ok : KOk1 Tryz.prog 28 [] Kj_0 := ran_ok (OT := OT) (k := 50000) (is := []) tt_ok rfl (kx_ok ktKj_ok kmKj_ok) (by kernel_rfl) rfl
end Go.Proofs.YtlokemkpgnngjaaGreatDoor
