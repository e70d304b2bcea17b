/- What is known of some calls of closed functions. Written by mach.py. -/
import Derived.Test.YthaekpmkjfmilaaGreatOa
import Derived.Test.YthaekpmkjfmilaaGreatKx
import Derived.Test.YthaekpmkjfmilaaGreatCxT
set_option maxRecDepth 100000
namespace Go.Proofs.YthaekpmkjfmilaaGreat
open Go.RowKit
def ktKa : List (Nat × List (List AV × Kn)) := []
def kmKa : List (Nat × List Kp) := []
theorem ktKa_ok : KsOk Tryz.prog ktKa := trivial
theorem kmKa_ok : KmOk Tryz.prog kmKa := trivial
def Ka_0 : Kn := ⟨1, [], nb true⟩
theorem Ka_0_ok : KOk1 Tryz.prog 174 [ns [108, 101, 118, 101, 108, 115]] Ka_0 := ran_ok (OT := OT) (k := 50000) (is := []) tt_ok rfl (kx_ok ktKa_ok kmKa_ok) (by kernel_rfl) rfl
def Ka_1 : Kn := ⟨1, [], nb false⟩
theorem Ka_1_ok : KOk1 Tryz.prog 174 [ns [108, 111, 119]] Ka_1 := ran_ok (OT := OT) (k := 50000) (is := []) tt_ok rfl (kx_ok ktKa_ok kmKa_ok) (by kernel_rfl) rfl
def Ka_2 : Kn := ⟨1, [], nb false⟩
theorem Ka_2_ok : KOk1 Tryz.prog 174 [ns [104, 105, 103, 104]] Ka_2 := ran_ok (OT := OT) (k := 50000) (is := []) tt_ok rfl (kx_ok ktKa_ok kmKa_ok) (by kernel_rfl) rfl
def Ka_3 : Kn := ⟨1, [], nb true⟩
theorem Ka_3_ok : KOk1 Tryz.prog 174 [ns [111, 114, 100, 101, 114]] Ka_3 := ran_ok (OT := OT) (k := 50000) (is := []) tt_ok rfl (kx_ok ktKa_ok kmKa_ok) (by kernel_rfl) rfl
def Ka_4 : Kn := ⟨1, [], nb true⟩
theorem Ka_4_ok : KOk1 Tryz.prog 174 [ns [116, 97, 98, 108, 101]] Ka_4 := ran_ok (OT := OT) (k := 50000) (is := []) tt_ok rfl (kx_ok ktKa_ok kmKa_ok) (by kernel_rfl) rfl
def Ka_5 : Kn := ⟨1, [], nb false⟩
theorem Ka_5_ok : KOk1 Tryz.prog 174 [ns [116]] Ka_5 := ran_ok (OT := OT) (k := 50000) (is := []) tt_ok rfl (kx_ok ktKa_ok kmKa_ok) (by kernel_rfl) rfl
def Ka_6 : Kn := ⟨1, [], nb true⟩
theorem Ka_6_ok : KOk1 Tryz.prog 174 [ns [114, 111, 119, 115]] Ka_6 := ran_ok (OT := OT) (k := 50000) (is := []) tt_ok rfl (kx_ok ktKa_ok kmKa_ok) (by kernel_rfl) rfl
def Ka_7 : Kn := ⟨1, [], nb false⟩
theorem Ka_7_ok : KOk1 Tryz.prog 174 [ns [97]] Ka_7 := ran_ok (OT := OT) (k := 50000) (is := []) tt_ok rfl (kx_ok ktKa_ok kmKa_ok) (by kernel_rfl) rfl
def Ka_8 : Kn := ⟨1, [], nb true⟩
theorem Ka_8_ok : KOk1 Tryz.prog 174 [ns [105, 110, 116]] Ka_8 := ran_ok (OT := OT) (k := 50000) (is := []) tt_ok rfl (kx_ok ktKa_ok kmKa_ok) (by kernel_rfl) rfl
def Ka_9 : Kn := ⟨1, [], nb true⟩
theorem Ka_9_ok : KOk1 Tryz.prog 174 [ns [107, 101, 121]] Ka_9 := ran_ok (OT := OT) (k := 50000) (is := []) tt_ok rfl (kx_ok ktKa_ok kmKa_ok) (by kernel_rfl) rfl
def Ka_10 : Kn := ⟨1, [], nb true⟩
theorem Ka_10_ok : KOk1 Tryz.prog 174 [ns [104, 105, 100, 101]] Ka_10 := ran_ok (OT := OT) (k := 50000) (is := []) tt_ok rfl (kx_ok ktKa_ok kmKa_ok) (by kernel_rfl) rfl
def Ka_11 : Kn := ⟨1, [], nb true⟩
theorem Ka_11_ok : KOk1 Tryz.prog 174 [ns [119, 104, 101, 110]] Ka_11 := ran_ok (OT := OT) (k := 50000) (is := []) tt_ok rfl (kx_ok ktKa_ok kmKa_ok) (by kernel_rfl) rfl
def Ka_12 : Kn := ⟨1, [], nb false⟩
theorem Ka_12_ok : KOk1 Tryz.prog 174 [ns [98]] Ka_12 := ran_ok (OT := OT) (k := 50000) (is := []) tt_ok rfl (kx_ok ktKa_ok kmKa_ok) (by kernel_rfl) rfl
end Go.Proofs.YthaekpmkjfmilaaGreat
