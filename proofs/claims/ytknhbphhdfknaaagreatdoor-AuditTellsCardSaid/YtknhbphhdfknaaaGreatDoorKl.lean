/- What is known of some calls of closed functions. Written by mach.py. -/
import Derived.Test.YtknhbphhdfknaaaGreatDoorKc
import Derived.Test.YtknhbphhdfknaaaGreatDoorKk
import Derived.Test.YtknhbphhdfknaaaGreatDoorOa
import Derived.Test.YtknhbphhdfknaaaGreatDoorKx
import Derived.Test.YtknhbphhdfknaaaGreatDoorCxT
set_option maxRecDepth 100000
namespace Go.Proofs.YtknhbphhdfknaaaGreatDoor
open Go.RowKit
def ktKl : List (Nat × List (List AV × Kn)) := [(21, [([ns [97]], Kc_0)]),
  (22, [([ns [115, 101, 108, 101, 99, 116, 32, 97, 32, 97, 115, 32, 120, 32, 102, 114, 111, 109, 32, 116, 32, 118, 105, 115, 105, 98, 108, 101]], Kk_0), ([ns [115, 101, 108, 101, 99, 116, 32, 98, 32, 97, 115, 32, 120, 32, 102, 114, 111, 109, 32, 116]], Kk_1)])]
def kmKl : List (Nat × List Kp) := []
theorem ktKl_ok : KsOk Tryz.prog ktKl := ⟨List.forall_mem_cons.2 ⟨Kc_0_ok, by simp⟩, List.forall_mem_cons.2 ⟨Kk_0_ok, List.forall_mem_cons.2 ⟨Kk_1_ok, by simp⟩⟩, trivial⟩
theorem kmKl_ok : KmOk Tryz.prog kmKl := trivial
def Kl_0 : Kn := ⟨1011, [], nb true⟩
theorem Kl_0_ok : KOk1 Tryz.prog 11 [] Kl_0 := ran_ok (OT := OT) (k := 50000) (is := []) tt_ok rfl (kx_ok ktKl_ok kmKl_ok) (by kernel_rfl) rfl
end Go.Proofs.YtknhbphhdfknaaaGreatDoor
