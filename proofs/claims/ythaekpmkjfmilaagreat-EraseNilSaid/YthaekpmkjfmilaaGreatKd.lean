/- What is known of some calls of closed functions. Written by mach.py. -/
import Derived.Test.YthaekpmkjfmilaaGreatKa
import Derived.Test.YthaekpmkjfmilaaGreatKb
import Derived.Test.YthaekpmkjfmilaaGreatOa
import Derived.Test.YthaekpmkjfmilaaGreatKx
import Derived.Test.YthaekpmkjfmilaaGreatCxT
set_option maxRecDepth 100000
namespace Go.Proofs.YthaekpmkjfmilaaGreat
open Go.RowKit
def ktKd : List (Nat × List (List AV × Kn)) := [(174, [([ns [108, 101, 118, 101, 108, 115]], Ka_0), ([ns [108, 111, 119]], Ka_1), ([ns [104, 105, 103, 104]], Ka_2), ([ns [111, 114, 100, 101, 114]], Ka_3), ([ns [116, 97, 98, 108, 101]], Ka_4), ([ns [116]], Ka_5), ([ns [114, 111, 119, 115]], Ka_6), ([ns [97]], Ka_7), ([ns [105, 110, 116]], Ka_8), ([ns [107, 101, 121]], Ka_9), ([ns [104, 105, 100, 101]], Ka_10), ([ns [119, 104, 101, 110]], Ka_11), ([ns [98]], Ka_12)]),
  (127, [([ns [108, 101, 118, 101, 108, 115, 32, 108, 111, 119, 44, 32, 104, 105, 103, 104, 59, 32, 111, 114, 100, 101, 114, 32, 108, 111, 119, 32, 60, 32, 104, 105, 103, 104, 59, 32, 116, 97, 98, 108, 101, 32, 116, 32, 114, 111, 119, 115, 32, 108, 111, 119, 32, 40, 97, 32, 105, 110, 116, 32, 108, 111, 119, 41, 32, 107, 101, 121, 32, 40, 97, 41, 32, 104, 105, 100, 101, 32, 104, 105, 103, 104, 32, 119, 104, 101, 110, 32, 97, 32, 61, 32, 49, 59]], Kb_0)])]
def kmKd : List (Nat × List Kp) := []
theorem ktKd_ok : KsOk Tryz.prog ktKd := ⟨List.forall_mem_cons.2 ⟨Ka_0_ok, List.forall_mem_cons.2 ⟨Ka_1_ok, List.forall_mem_cons.2 ⟨Ka_2_ok, List.forall_mem_cons.2 ⟨Ka_3_ok, List.forall_mem_cons.2 ⟨Ka_4_ok, List.forall_mem_cons.2 ⟨Ka_5_ok, List.forall_mem_cons.2 ⟨Ka_6_ok, List.forall_mem_cons.2 ⟨Ka_7_ok, List.forall_mem_cons.2 ⟨Ka_8_ok, List.forall_mem_cons.2 ⟨Ka_9_ok, List.forall_mem_cons.2 ⟨Ka_10_ok, List.forall_mem_cons.2 ⟨Ka_11_ok, List.forall_mem_cons.2 ⟨Ka_12_ok, by simp⟩⟩⟩⟩⟩⟩⟩⟩⟩⟩⟩⟩⟩, List.forall_mem_cons.2 ⟨Kb_0_ok, by simp⟩, trivial⟩
theorem kmKd_ok : KmOk Tryz.prog kmKd := trivial
def Kd_0 : Kn := ⟨243, [(236, .row 105 6 2 [ni 5, ni 0, ns [97], ns [], nz, nz, ni 3, ni 1, ns [], ns [], nz, nz]),
  (239, .row 105 6 1 [ni 10, ni 0, ns [61], ns [], .sl 236 0 2 6, nz]),
  (206, .row 9 1 1 [ns [97]]),
  (204, .row 218 4 1 [ns [97], ni 2, nb false, ns [108, 111, 119]]),
  (241, .row 171 6 1 [ns [116], ns [108, 111, 119], .sl 204 0 1 4, .sl 206 0 1 1, ns [104, 105, 103, 104], .sl 239 0 1 6]),
  (195, .row 210 2 1 [ns [108, 111, 119], ns [104, 105, 103, 104]]),
  (191, .row 9 1 2 [ns [108, 111, 119], ns [104, 105, 103, 104]])], .tup [.agg [.sl 191 0 2 1, .sl 195 0 1 2, .sl 241 0 1 6, nz, nz, ni 0], ni 0, ni 0]⟩
theorem Kd_0_ok : KOk1 Tryz.prog 51 [ns [108, 101, 118, 101, 108, 115, 32, 108, 111, 119, 44, 32, 104, 105, 103, 104, 59, 32, 111, 114, 100, 101, 114, 32, 108, 111, 119, 32, 60, 32, 104, 105, 103, 104, 59, 32, 116, 97, 98, 108, 101, 32, 116, 32, 114, 111, 119, 115, 32, 108, 111, 119, 32, 40, 97, 32, 105, 110, 116, 32, 108, 111, 119, 41, 32, 107, 101, 121, 32, 40, 97, 41, 32, 104, 105, 100, 101, 32, 104, 105, 103, 104, 32, 119, 104, 101, 110, 32, 97, 32, 61, 32, 49, 59]] Kd_0 := ran_ok (OT := OT) (k := 50000) (is := [236, 239, 206, 204, 241, 195, 191]) tt_ok rfl (kx_ok ktKd_ok kmKd_ok) (by kernel_rfl) rfl
end Go.Proofs.YthaekpmkjfmilaaGreat
