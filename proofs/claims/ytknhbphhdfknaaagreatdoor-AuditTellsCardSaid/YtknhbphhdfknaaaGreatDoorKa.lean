/- What is known of some calls of closed functions. Written by mach.py. -/
import Derived.Test.YtknhbphhdfknaaaGreatDoorOa
import Derived.Test.YtknhbphhdfknaaaGreatDoorKx
import Derived.Test.YtknhbphhdfknaaaGreatDoorCxT
set_option maxRecDepth 100000
namespace Go.Proofs.YtknhbphhdfknaaaGreatDoor
open Go.RowKit
def ktKa : List (Nat × List (List AV × Kn)) := []
def kmKa : List (Nat × List Kp) := []
theorem ktKa_ok : KsOk Tryz.prog ktKa := trivial
theorem kmKa_ok : KmOk Tryz.prog kmKa := trivial
def Ka_0 : Kn := ⟨1, [], nb true⟩
theorem Ka_0_ok : KOk1 Tryz.prog 148 [ns [108, 101, 118, 101, 108, 115]] Ka_0 := ran_ok (OT := OT) (k := 50000) (is := []) tt_ok rfl (kx_ok ktKa_ok kmKa_ok) (by kernel_rfl) rfl
def Ka_1 : Kn := ⟨1, [], nb false⟩
theorem Ka_1_ok : KOk1 Tryz.prog 148 [ns [108, 111, 119]] Ka_1 := ran_ok (OT := OT) (k := 50000) (is := []) tt_ok rfl (kx_ok ktKa_ok kmKa_ok) (by kernel_rfl) rfl
def Ka_2 : Kn := ⟨1, [], nb false⟩
theorem Ka_2_ok : KOk1 Tryz.prog 148 [ns [104, 105, 103, 104]] Ka_2 := ran_ok (OT := OT) (k := 50000) (is := []) tt_ok rfl (kx_ok ktKa_ok kmKa_ok) (by kernel_rfl) rfl
def Ka_3 : Kn := ⟨1, [], nb true⟩
theorem Ka_3_ok : KOk1 Tryz.prog 148 [ns [111, 114, 100, 101, 114]] Ka_3 := ran_ok (OT := OT) (k := 50000) (is := []) tt_ok rfl (kx_ok ktKa_ok kmKa_ok) (by kernel_rfl) rfl
def Ka_4 : Kn := ⟨1, [], nb true⟩
theorem Ka_4_ok : KOk1 Tryz.prog 148 [ns [116, 97, 98, 108, 101]] Ka_4 := ran_ok (OT := OT) (k := 50000) (is := []) tt_ok rfl (kx_ok ktKa_ok kmKa_ok) (by kernel_rfl) rfl
def Ka_5 : Kn := ⟨1, [], nb false⟩
theorem Ka_5_ok : KOk1 Tryz.prog 148 [ns [116]] Ka_5 := ran_ok (OT := OT) (k := 50000) (is := []) tt_ok rfl (kx_ok ktKa_ok kmKa_ok) (by kernel_rfl) rfl
def Ka_6 : Kn := ⟨1, [], nb true⟩
theorem Ka_6_ok : KOk1 Tryz.prog 148 [ns [114, 111, 119, 115]] Ka_6 := ran_ok (OT := OT) (k := 50000) (is := []) tt_ok rfl (kx_ok ktKa_ok kmKa_ok) (by kernel_rfl) rfl
def Ka_7 : Kn := ⟨1, [], nb false⟩
theorem Ka_7_ok : KOk1 Tryz.prog 148 [ns [97]] Ka_7 := ran_ok (OT := OT) (k := 50000) (is := []) tt_ok rfl (kx_ok ktKa_ok kmKa_ok) (by kernel_rfl) rfl
def Ka_8 : Kn := ⟨1, [], nb true⟩
theorem Ka_8_ok : KOk1 Tryz.prog 148 [ns [105, 110, 116]] Ka_8 := ran_ok (OT := OT) (k := 50000) (is := []) tt_ok rfl (kx_ok ktKa_ok kmKa_ok) (by kernel_rfl) rfl
def Ka_9 : Kn := ⟨1, [], nb false⟩
theorem Ka_9_ok : KOk1 Tryz.prog 148 [ns [98]] Ka_9 := ran_ok (OT := OT) (k := 50000) (is := []) tt_ok rfl (kx_ok ktKa_ok kmKa_ok) (by kernel_rfl) rfl
def Ka_10 : Kn := ⟨1, [], nb true⟩
theorem Ka_10_ok : KOk1 Tryz.prog 148 [ns [107, 101, 121]] Ka_10 := ran_ok (OT := OT) (k := 50000) (is := []) tt_ok rfl (kx_ok ktKa_ok kmKa_ok) (by kernel_rfl) rfl
def Ka_11 : Kn := ⟨1, [], nb true⟩
theorem Ka_11_ok : KOk1 Tryz.prog 148 [ns [104, 105, 100, 101]] Ka_11 := ran_ok (OT := OT) (k := 50000) (is := []) tt_ok rfl (kx_ok ktKa_ok kmKa_ok) (by kernel_rfl) rfl
def Ka_12 : Kn := ⟨1, [], nb true⟩
theorem Ka_12_ok : KOk1 Tryz.prog 148 [ns [119, 104, 101, 110]] Ka_12 := ran_ok (OT := OT) (k := 50000) (is := []) tt_ok rfl (kx_ok ktKa_ok kmKa_ok) (by kernel_rfl) rfl
def Ka_13 : Kn := ⟨1, [], nb true⟩
theorem Ka_13_ok : KOk1 Tryz.prog 148 [ns [99, 104, 97, 110, 110, 101, 108]] Ka_13 := ran_ok (OT := OT) (k := 50000) (is := []) tt_ok rfl (kx_ok ktKa_ok kmKa_ok) (by kernel_rfl) rfl
def Ka_14 : Kn := ⟨1, [], nb false⟩
theorem Ka_14_ok : KOk1 Tryz.prog 148 [ns [111, 117, 116]] Ka_14 := ran_ok (OT := OT) (k := 50000) (is := []) tt_ok rfl (kx_ok ktKa_ok kmKa_ok) (by kernel_rfl) rfl
def Ka_15 : Kn := ⟨1, [], nb true⟩
theorem Ka_15_ok : KOk1 Tryz.prog 148 [ns [112, 114, 105, 110, 99, 105, 112, 97, 108]] Ka_15 := ran_ok (OT := OT) (k := 50000) (is := []) tt_ok rfl (kx_ok ktKa_ok kmKa_ok) (by kernel_rfl) rfl
def Ka_16 : Kn := ⟨1, [], nb false⟩
theorem Ka_16_ok : KOk1 Tryz.prog 148 [ns [97, 110, 110]] Ka_16 := ran_ok (OT := OT) (k := 50000) (is := []) tt_ok rfl (kx_ok ktKa_ok kmKa_ok) (by kernel_rfl) rfl
def Ka_17 : Kn := ⟨1, [], nb true⟩
theorem Ka_17_ok : KOk1 Tryz.prog 148 [ns [115, 101, 108, 101, 99, 116]] Ka_17 := ran_ok (OT := OT) (k := 50000) (is := []) tt_ok rfl (kx_ok ktKa_ok kmKa_ok) (by kernel_rfl) rfl
def Ka_18 : Kn := ⟨1, [], nb true⟩
theorem Ka_18_ok : KOk1 Tryz.prog 148 [ns [97, 115]] Ka_18 := ran_ok (OT := OT) (k := 50000) (is := []) tt_ok rfl (kx_ok ktKa_ok kmKa_ok) (by kernel_rfl) rfl
def Ka_19 : Kn := ⟨1, [], nb false⟩
theorem Ka_19_ok : KOk1 Tryz.prog 148 [ns [120]] Ka_19 := ran_ok (OT := OT) (k := 50000) (is := []) tt_ok rfl (kx_ok ktKa_ok kmKa_ok) (by kernel_rfl) rfl
def Ka_20 : Kn := ⟨1, [], nb true⟩
theorem Ka_20_ok : KOk1 Tryz.prog 148 [ns [102, 114, 111, 109]] Ka_20 := ran_ok (OT := OT) (k := 50000) (is := []) tt_ok rfl (kx_ok ktKa_ok kmKa_ok) (by kernel_rfl) rfl
def Ka_21 : Kn := ⟨1, [], nb true⟩
theorem Ka_21_ok : KOk1 Tryz.prog 148 [ns [118, 105, 115, 105, 98, 108, 101]] Ka_21 := ran_ok (OT := OT) (k := 50000) (is := []) tt_ok rfl (kx_ok ktKa_ok kmKa_ok) (by kernel_rfl) rfl
def Ka_22 : Kn := ⟨1, [], nb true⟩
theorem Ka_22_ok : KOk1 Tryz.prog 148 [ns [119, 104, 101, 114, 101]] Ka_22 := ran_ok (OT := OT) (k := 50000) (is := []) tt_ok rfl (kx_ok ktKa_ok kmKa_ok) (by kernel_rfl) rfl
def Ka_23 : Kn := ⟨1, [], nb true⟩
theorem Ka_23_ok : KOk1 Tryz.prog 148 [ns [117, 110, 105, 111, 110]] Ka_23 := ran_ok (OT := OT) (k := 50000) (is := []) tt_ok rfl (kx_ok ktKa_ok kmKa_ok) (by kernel_rfl) rfl
end Go.Proofs.YtknhbphhdfknaaaGreatDoor
