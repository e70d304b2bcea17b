/- What is known of some calls of closed functions. Written by mach.py. -/
import Derived.Test.YtknhbphhdfknaaaGreatDoorKa
import Derived.Test.YtknhbphhdfknaaaGreatDoorOa
import Derived.Test.YtknhbphhdfknaaaGreatDoorKx
import Derived.Test.YtknhbphhdfknaaaGreatDoorCxT
set_option maxRecDepth 100000
namespace Go.Proofs.YtknhbphhdfknaaaGreatDoor
open Go.RowKit
def ktKk : List (Nat × List (List AV × Kn)) := [(148, [([ns [108, 101, 118, 101, 108, 115]], Ka_0), ([ns [108, 111, 119]], Ka_1), ([ns [104, 105, 103, 104]], Ka_2), ([ns [111, 114, 100, 101, 114]], Ka_3), ([ns [116, 97, 98, 108, 101]], Ka_4), ([ns [116]], Ka_5), ([ns [114, 111, 119, 115]], Ka_6), ([ns [97]], Ka_7), ([ns [105, 110, 116]], Ka_8), ([ns [98]], Ka_9), ([ns [107, 101, 121]], Ka_10), ([ns [104, 105, 100, 101]], Ka_11), ([ns [119, 104, 101, 110]], Ka_12), ([ns [99, 104, 97, 110, 110, 101, 108]], Ka_13), ([ns [111, 117, 116]], Ka_14), ([ns [112, 114, 105, 110, 99, 105, 112, 97, 108]], Ka_15), ([ns [97, 110, 110]], Ka_16), ([ns [115, 101, 108, 101, 99, 116]], Ka_17), ([ns [97, 115]], Ka_18), ([ns [120]], Ka_19), ([ns [102, 114, 111, 109]], Ka_20), ([ns [118, 105, 115, 105, 98, 108, 101]], Ka_21), ([ns [119, 104, 101, 114, 101]], Ka_22), ([ns [117, 110, 105, 111, 110]], Ka_23)])]
def kmKk : List (Nat × List Kp) := []
theorem ktKk_ok : KsOk Tryz.prog ktKk := ⟨List.forall_mem_cons.2 ⟨Ka_0_ok, List.forall_mem_cons.2 ⟨Ka_1_ok, List.forall_mem_cons.2 ⟨Ka_2_ok, List.forall_mem_cons.2 ⟨Ka_3_ok, List.forall_mem_cons.2 ⟨Ka_4_ok, List.forall_mem_cons.2 ⟨Ka_5_ok, List.forall_mem_cons.2 ⟨Ka_6_ok, List.forall_mem_cons.2 ⟨Ka_7_ok, List.forall_mem_cons.2 ⟨Ka_8_ok, List.forall_mem_cons.2 ⟨Ka_9_ok, List.forall_mem_cons.2 ⟨Ka_10_ok, List.forall_mem_cons.2 ⟨Ka_11_ok, List.forall_mem_cons.2 ⟨Ka_12_ok, List.forall_mem_cons.2 ⟨Ka_13_ok, List.forall_mem_cons.2 ⟨Ka_14_ok, List.forall_mem_cons.2 ⟨Ka_15_ok, List.forall_mem_cons.2 ⟨Ka_16_ok, List.forall_mem_cons.2 ⟨Ka_17_ok, List.forall_mem_cons.2 ⟨Ka_18_ok, List.forall_mem_cons.2 ⟨Ka_19_ok, List.forall_mem_cons.2 ⟨Ka_20_ok, List.forall_mem_cons.2 ⟨Ka_21_ok, List.forall_mem_cons.2 ⟨Ka_22_ok, List.forall_mem_cons.2 ⟨Ka_23_ok, by simp⟩⟩⟩⟩⟩⟩⟩⟩⟩⟩⟩⟩⟩⟩⟩⟩⟩⟩⟩⟩⟩⟩⟩⟩, trivial⟩
theorem kmKk_ok : KmOk Tryz.prog kmKk := trivial
def Kk_0 : Kn := ⟨79, [(76, .row 220 7 1 [ni 1, ns [116], nb true, ns [116], nz, nz, nz]),
  (70, .row 218 7 1 [ni 5, ni 0, ns [97], ns [], nz, nz, ns [120]])], .tup [.agg [ni 1, nb false, .sl 70 0 1 7, .sl 76 0 1 7, nz, nz, nz, nz, ni (-1), nz], ni 0, ni 0]⟩
theorem Kk_0_ok : KOk1 Tryz.prog 22 [ns [115, 101, 108, 101, 99, 116, 32, 97, 32, 97, 115, 32, 120, 32, 102, 114, 111, 109, 32, 116, 32, 118, 105, 115, 105, 98, 108, 101]] Kk_0 := ran_ok (OT := OT) (k := 50000) (is := [76, 70]) tt_ok rfl (kx_ok ktKk_ok kmKk_ok) (by kernel_rfl) rfl
def Kk_1 : Kn := ⟨73, [(70, .row 220 7 1 [ni 1, ns [116], nb false, ns [116], nz, nz, nz]),
  (64, .row 218 7 1 [ni 5, ni 0, ns [98], ns [], nz, nz, ns [120]])], .tup [.agg [ni 1, nb false, .sl 64 0 1 7, .sl 70 0 1 7, nz, nz, nz, nz, ni (-1), nz], ni 0, ni 0]⟩
theorem Kk_1_ok : KOk1 Tryz.prog 22 [ns [115, 101, 108, 101, 99, 116, 32, 98, 32, 97, 115, 32, 120, 32, 102, 114, 111, 109, 32, 116]] Kk_1 := ran_ok (OT := OT) (k := 50000) (is := [70, 64]) tt_ok rfl (kx_ok ktKk_ok kmKk_ok) (by kernel_rfl) rfl
end Go.Proofs.YtknhbphhdfknaaaGreatDoor
