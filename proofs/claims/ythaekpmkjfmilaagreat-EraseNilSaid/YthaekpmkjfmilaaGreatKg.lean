/- What is known of some calls of closed functions. Written by mach.py. -/
import Derived.Test.YthaekpmkjfmilaaGreatKd
import Derived.Test.YthaekpmkjfmilaaGreatOa
import Derived.Test.YthaekpmkjfmilaaGreatKx
import Derived.Test.YthaekpmkjfmilaaGreatCxT
set_option maxRecDepth 100000
namespace Go.Proofs.YthaekpmkjfmilaaGreat
open Go.RowKit
def ktKg : List (Nat × List (List AV × Kn)) := [(51, [([ns [108, 101, 118, 101, 108, 115, 32, 108, 111, 119, 44, 32, 104, 105, 103, 104, 59, 32, 111, 114, 100, 101, 114, 32, 108, 111, 119, 32, 60, 32, 104, 105, 103, 104, 59, 32, 116, 97, 98, 108, 101, 32, 116, 32, 114, 111, 119, 115, 32, 108, 111, 119, 32, 40, 97, 32, 105, 110, 116, 32, 108, 111, 119, 41, 32, 107, 101, 121, 32, 40, 97, 41, 32, 104, 105, 100, 101, 32, 104, 105, 103, 104, 32, 119, 104, 101, 110, 32, 97, 32, 61, 32, 49, 59]], Kd_0)])]
def kmKg : List (Nat × List Kp) := []
theorem ktKg_ok : KsOk Tryz.prog ktKg := ⟨List.forall_mem_cons.2 ⟨Kd_0_ok, by simp⟩, trivial⟩
theorem kmKg_ok : KmOk Tryz.prog kmKg := trivial
def Kg_0 : Kn := ⟨579, [], nb true⟩
theorem Kg_0_ok : KOk1 Tryz.prog 15 [] Kg_0 := ran_ok (OT := OT) (k := 50000) (is := []) tt_ok rfl (kx_ok ktKg_ok kmKg_ok) (by kernel_rfl) rfl
end Go.Proofs.YthaekpmkjfmilaaGreat
