/- What is known of some calls of closed functions. Written by mach.py. -/
import Derived.Test.YtknhbphhdfknaaaGreatDoorKa
import Derived.Test.YtknhbphhdfknaaaGreatDoorKb
import Derived.Test.YtknhbphhdfknaaaGreatDoorOa
import Derived.Test.YtknhbphhdfknaaaGreatDoorKx
import Derived.Test.YtknhbphhdfknaaaGreatDoorCxT
set_option maxRecDepth 100000
namespace Go.Proofs.YtknhbphhdfknaaaGreatDoor
open Go.RowKit
def ktKc : List (Nat × List (List AV × Kn)) := [(148, [([ns [108, 101, 118, 101, 108, 115]], Ka_0), ([ns [108, 111, 119]], Ka_1), ([ns [104, 105, 103, 104]], Ka_2), ([ns [111, 114, 100, 101, 114]], Ka_3), ([ns [116, 97, 98, 108, 101]], Ka_4), ([ns [116]], Ka_5), ([ns [114, 111, 119, 115]], Ka_6), ([ns [97]], Ka_7), ([ns [105, 110, 116]], Ka_8), ([ns [98]], Ka_9), ([ns [107, 101, 121]], Ka_10), ([ns [104, 105, 100, 101]], Ka_11), ([ns [119, 104, 101, 110]], Ka_12), ([ns [99, 104, 97, 110, 110, 101, 108]], Ka_13), ([ns [111, 117, 116]], Ka_14), ([ns [112, 114, 105, 110, 99, 105, 112, 97, 108]], Ka_15), ([ns [97, 110, 110]], Ka_16), ([ns [115, 101, 108, 101, 99, 116]], Ka_17), ([ns [97, 115]], Ka_18), ([ns [120]], Ka_19), ([ns [102, 114, 111, 109]], Ka_20), ([ns [118, 105, 115, 105, 98, 108, 101]], Ka_21), ([ns [119, 104, 101, 114, 101]], Ka_22), ([ns [117, 110, 105, 111, 110]], Ka_23)]),
  (91, [([ns [108, 101, 118, 101, 108, 115, 32, 108, 111, 119, 44, 32, 104, 105, 103, 104, 59, 32, 111, 114, 100, 101, 114, 32, 108, 111, 119, 32, 60, 32, 104, 105, 103, 104, 59, 32, 116, 97, 98, 108, 101, 32, 116, 32, 114, 111, 119, 115, 32, 108, 111, 119, 32, 40, 97, 32, 105, 110, 116, 32, 108, 111, 119, 44, 32, 98, 32, 105, 110, 116, 32, 104, 105, 103, 104, 41, 32, 107, 101, 121, 32, 40, 97, 41, 32, 104, 105, 100, 101, 32, 104, 105, 103, 104, 32, 119, 104, 101, 110, 32, 97, 32, 61, 32, 49, 59, 32, 99, 104, 97, 110, 110, 101, 108, 32, 111, 117, 116, 32, 108, 111, 119, 59, 32, 112, 114, 105, 110, 99, 105, 112, 97, 108, 32, 97, 110, 110, 32, 104, 105, 103, 104, 59]], Kb_0)])]
def kmKc : List (Nat × List Kp) := []
theorem ktKc_ok : KsOk Tryz.prog ktKc := ⟨List.forall_mem_cons.2 ⟨Ka_0_ok, List.forall_mem_cons.2 ⟨Ka_1_ok, List.forall_mem_cons.2 ⟨Ka_2_ok, List.forall_mem_cons.2 ⟨Ka_3_ok, List.forall_mem_cons.2 ⟨Ka_4_ok, List.forall_mem_cons.2 ⟨Ka_5_ok, List.forall_mem_cons.2 ⟨Ka_6_ok, List.forall_mem_cons.2 ⟨Ka_7_ok, List.forall_mem_cons.2 ⟨Ka_8_ok, List.forall_mem_cons.2 ⟨Ka_9_ok, List.forall_mem_cons.2 ⟨Ka_10_ok, List.forall_mem_cons.2 ⟨Ka_11_ok, List.forall_mem_cons.2 ⟨Ka_12_ok, List.forall_mem_cons.2 ⟨Ka_13_ok, List.forall_mem_cons.2 ⟨Ka_14_ok, List.forall_mem_cons.2 ⟨Ka_15_ok, List.forall_mem_cons.2 ⟨Ka_16_ok, List.forall_mem_cons.2 ⟨Ka_17_ok, List.forall_mem_cons.2 ⟨Ka_18_ok, List.forall_mem_cons.2 ⟨Ka_19_ok, List.forall_mem_cons.2 ⟨Ka_20_ok, List.forall_mem_cons.2 ⟨Ka_21_ok, List.forall_mem_cons.2 ⟨Ka_22_ok, List.forall_mem_cons.2 ⟨Ka_23_ok, by simp⟩⟩⟩⟩⟩⟩⟩⟩⟩⟩⟩⟩⟩⟩⟩⟩⟩⟩⟩⟩⟩⟩⟩⟩, List.forall_mem_cons.2 ⟨Kb_0_ok, by simp⟩, trivial⟩
theorem kmKc_ok : KmOk Tryz.prog kmKc := trivial
def Kc_0 : Kn := ⟨330, [(327, .row 94 2 1 [ns [97, 110, 110], ns [104, 105, 103, 104]]),
  (323, .row 94 2 1 [ns [111, 117, 116], ns [108, 111, 119]]),
  (314, .row 145 6 2 [ni 5, ni 0, ns [97], ns [], nz, nz, ni 3, ni 1, ns [], ns [], nz, nz]),
  (317, .row 145 6 1 [ni 10, ni 0, ns [61], ns [], .sl 314 0 2 6, nz]),
  (284, .row 9 1 1 [ns [97]]),
  (282, .row 165 4 2 [ns [97], ni 2, nb false, ns [108, 111, 119], ns [98], ni 2, nb false, ns [104, 105, 103, 104]]),
  (319, .row 114 6 1 [ns [116], ns [108, 111, 119], .sl 282 0 2 4, .sl 284 0 1 1, ns [104, 105, 103, 104], .sl 317 0 1 6]),
  (268, .row 94 2 1 [ns [108, 111, 119], ns [104, 105, 103, 104]]),
  (264, .row 9 1 2 [ns [108, 111, 119], ns [104, 105, 103, 104]])], .agg [.sl 264 0 2 1, .sl 268 0 1 2, .sl 319 0 1 6, .sl 323 0 1 2, .sl 327 0 1 2, ni 0]⟩
theorem Kc_0_ok : KOk1 Tryz.prog 21 [ns [97]] Kc_0 := ran_ok (OT := OT) (k := 50000) (is := [327, 323, 314, 317, 284, 282, 319, 268, 264]) tt_ok rfl (kx_ok ktKc_ok kmKc_ok) (by kernel_rfl) rfl
end Go.Proofs.YtknhbphhdfknaaaGreatDoor
