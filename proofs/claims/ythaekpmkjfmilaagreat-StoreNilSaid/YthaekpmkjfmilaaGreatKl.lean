/- What is known of some calls of closed functions. Written by mach.py. -/
import Derived.Test.YthaekpmkjfmilaaGreatKe
import Derived.Test.YthaekpmkjfmilaaGreatOa
import Derived.Test.YthaekpmkjfmilaaGreatKx
import Derived.Test.YthaekpmkjfmilaaGreatCxT
set_option maxRecDepth 100000
namespace Go.Proofs.YthaekpmkjfmilaaGreat
open Go.RowKit
def ktKl : List (Nat × List (List AV × Kn)) := [(51, [([ns [108, 101, 118, 101, 108, 115, 32, 108, 111, 119, 44, 32, 104, 105, 103, 104, 59, 32, 111, 114, 100, 101, 114, 32, 108, 111, 119, 32, 60, 32, 104, 105, 103, 104, 59, 32, 116, 97, 98, 108, 101, 32, 116, 32, 114, 111, 119, 115, 32, 108, 111, 119, 32, 40, 97, 32, 105, 110, 116, 32, 108, 111, 119, 44, 32, 98, 32, 105, 110, 116, 32, 104, 105, 103, 104, 41, 59]], Ke_0)])]
def kmKl : List (Nat × List Kp) := []
theorem ktKl_ok : KsOk Tryz.prog ktKl := ⟨List.forall_mem_cons.2 ⟨Ke_0_ok, by simp⟩, trivial⟩
theorem kmKl_ok : KmOk Tryz.prog kmKl := trivial
def Kl_0 : Kn := ⟨426, [], nb true⟩
theorem Kl_0_ok : KOk1 Tryz.prog 28 [] Kl_0 := ran_ok (OT := OT) (k := 50000) (is := []) tt_ok rfl (kx_ok ktKl_ok kmKl_ok) (by kernel_rfl) rfl
end Go.Proofs.YthaekpmkjfmilaaGreat
