/- What is known of some calls of closed functions. Written by mach.py. -/
import Derived.Test.YtlokemkpgnngjaaGreatDoorKa
import Derived.Test.YtlokemkpgnngjaaGreatDoorOa
import Derived.Test.YtlokemkpgnngjaaGreatDoorKx
import Derived.Test.YtlokemkpgnngjaaGreatDoorCxT
set_option maxRecDepth 100000
namespace Go.Proofs.YtlokemkpgnngjaaGreatDoor
open Go.RowKit
def ktKi : List (Nat × List (List AV × Kn)) := [(241, [([ns [108, 101, 118, 101, 108, 115]], Ka_0), ([ns [108, 111, 119]], Ka_1), ([ns [104, 105, 103, 104]], Ka_2), ([ns [111, 114, 100, 101, 114]], Ka_3), ([ns [116, 97, 98, 108, 101]], Ka_4), ([ns [116]], Ka_5), ([ns [114, 111, 119, 115]], Ka_6), ([ns [97]], Ka_7), ([ns [105, 110, 116]], Ka_8), ([ns [98]], Ka_9), ([ns [107, 101, 121]], Ka_10), ([ns [104, 105, 100, 101]], Ka_11), ([ns [119, 104, 101, 110]], Ka_12), ([ns [99, 104, 97, 110, 110, 101, 108]], Ka_13), ([ns [111, 117, 116]], Ka_14), ([ns [112, 114, 105, 110, 99, 105, 112, 97, 108]], Ka_15), ([ns [97, 110, 110]], Ka_16), ([ns [115, 101, 108, 101, 99, 116]], Ka_17), ([ns [97, 115]], Ka_18), ([ns [120]], Ka_19), ([ns [102, 114, 111, 109]], Ka_20), ([ns [118, 105, 115, 105, 98, 108, 101]], Ka_21), ([ns [119, 104, 101, 114, 101]], Ka_22), ([ns [117, 110, 105, 111, 110]], Ka_23)])]
def kmKi : List (Nat × List Kp) := []
theorem ktKi_ok : KsOk Tryz.prog ktKi := ⟨List.forall_mem_cons.2 ⟨Ka_0_ok, List.forall_mem_cons.2 ⟨Ka_1_ok, List.forall_mem_cons.2 ⟨Ka_2_ok, List.forall_mem_cons.2 ⟨Ka_3_ok, List.forall_mem_cons.2 ⟨Ka_4_ok, List.forall_mem_cons.2 ⟨Ka_5_ok, List.forall_mem_cons.2 ⟨Ka_6_ok, List.forall_mem_cons.2 ⟨Ka_7_ok, List.forall_mem_cons.2 ⟨Ka_8_ok, List.forall_mem_cons.2 ⟨Ka_9_ok, List.forall_mem_cons.2 ⟨Ka_10_ok, List.forall_mem_cons.2 ⟨Ka_11_ok, List.forall_mem_cons.2 ⟨Ka_12_ok, List.forall_mem_cons.2 ⟨Ka_13_ok, List.forall_mem_cons.2 ⟨Ka_14_ok, List.forall_mem_cons.2 ⟨Ka_15_ok, List.forall_mem_cons.2 ⟨Ka_16_ok, List.forall_mem_cons.2 ⟨Ka_17_ok, List.forall_mem_cons.2 ⟨Ka_18_ok, List.forall_mem_cons.2 ⟨Ka_19_ok, List.forall_mem_cons.2 ⟨Ka_20_ok, List.forall_mem_cons.2 ⟨Ka_21_ok, List.forall_mem_cons.2 ⟨Ka_22_ok, List.forall_mem_cons.2 ⟨Ka_23_ok, by simp⟩⟩⟩⟩⟩⟩⟩⟩⟩⟩⟩⟩⟩⟩⟩⟩⟩⟩⟩⟩⟩⟩⟩⟩, trivial⟩
theorem kmKi_ok : KmOk Tryz.prog kmKi := trivial
def Ki_0 : Kn := ⟨52, [(45, .row 144 6 2 [ni 5, ni 0, ns [98], ns [], nz, nz, ni 3, ni 1, ns [], ns [], nz, nz])], .tup [.agg [ni 10, ni 0, ns [43], ns [], .sl 45 0 2 6, nz], ni 0, ni 0]⟩
theorem Ki_0_ok : KOk1 Tryz.prog 66 [ns [98, 32, 43, 32, 49]] Ki_0 := ran_ok (OT := OT) (k := 50000) (is := [45]) tt_ok rfl (kx_ok ktKi_ok kmKi_ok) (by kernel_rfl) rfl
def Ki_1 : Kn := ⟨54, [(50, .row 144 6 2 [ni 5, ni 0, ns [97], ns [], nz, nz, ni 3, ni 1, ns [], ns [], nz, nz])], .tup [.agg [ni 10, ni 0, ns [61], ns [], .sl 50 0 2 6, nz], ni 0, ni 0]⟩
theorem Ki_1_ok : KOk1 Tryz.prog 66 [ns [97, 32, 61, 32, 49]] Ki_1 := ran_ok (OT := OT) (k := 50000) (is := [50]) tt_ok rfl (kx_ok ktKi_ok kmKi_ok) (by kernel_rfl) rfl
end Go.Proofs.YtlokemkpgnngjaaGreatDoor
