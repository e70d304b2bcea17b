/- What is known of some calls of closed functions. Written by mach.py. -/
import Derived.Test.YtknhbphhdfknaaaGreatDoorKc
import Derived.Test.YtknhbphhdfknaaaGreatDoorKd
import Derived.Test.YtknhbphhdfknaaaGreatDoorOa
import Derived.Test.YtknhbphhdfknaaaGreatDoorKx
import Derived.Test.YtknhbphhdfknaaaGreatDoorCxT
set_option maxRecDepth 100000
namespace Go.Proofs.YtknhbphhdfknaaaGreatDoor
open Go.RowKit
def ktKf : List (Nat × List (List AV × Kn)) := [(21, [([ns [97]], Kc_0)]),
  (22, [([ns [115, 101, 108, 101, 99, 116, 32, 97, 32, 97, 115, 32, 120, 32, 102, 114, 111, 109, 32, 116, 32, 118, 105, 115, 105, 98, 108, 101, 32, 119, 104, 101, 114, 101, 32, 98, 32, 62, 32, 48]], Kd_0)])]
def kmKf : List (Nat × List Kp) := []
theorem ktKf_ok : KsOk Tryz.prog ktKf := ⟨List.forall_mem_cons.2 ⟨Kc_0_ok, by simp⟩, List.forall_mem_cons.2 ⟨Kd_0_ok, by simp⟩, trivial⟩
theorem kmKf_ok : KmOk Tryz.prog kmKf := trivial
def Kf_0 : Kn := ⟨885, [], nb true⟩
theorem Kf_0_ok : KOk1 Tryz.prog 6 [] Kf_0 := ran_ok (OT := OT) (k := 50000) (is := []) tt_ok rfl (kx_ok ktKf_ok kmKf_ok) (by kernel_rfl) rfl
end Go.Proofs.YtknhbphhdfknaaaGreatDoor
