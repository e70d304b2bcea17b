/- What is known of some calls of closed functions. Written by mach.py. -/
import Derived.Test.YthaekpmkjfmilaaGreatOa
import Derived.Test.YthaekpmkjfmilaaGreatKx
import Derived.Test.YthaekpmkjfmilaaGreatCxT
set_option maxRecDepth 100000
namespace Go.Proofs.YthaekpmkjfmilaaGreat
open Go.RowKit
def ktKc : List (Nat × List (List AV × Kn)) := []
def kmKc : List (Nat × List Kp) := []
theorem ktKc_ok : KsOk Tryz.prog ktKc := trivial
theorem kmKc_ok : KmOk Tryz.prog kmKc := trivial
def Kc_0 : Kn := ⟨146, [(145, .row 204 4 25 [ni 1, ns [108, 101, 118, 101, 108, 115], ni 0, ni 0, ni 1, ns [108, 111, 119], ni 0, ni 7, ni 4, ns [44], ni 0, ni 10, ni 1, ns [104, 105, 103, 104], ni 0, ni 12, ni 4, ns [59], ni 0, ni 16, ni 1, ns [111, 114, 100, 101, 114], ni 0, ni 18, ni 1, ns [108, 111, 119], ni 0, ni 24, ni 4, ns [60], ni 0, ni 28, ni 1, ns [104, 105, 103, 104], ni 0, ni 30, ni 4, ns [59], ni 0, ni 34, ni 1, ns [116, 97, 98, 108, 101], ni 0, ni 36, ni 1, ns [116], ni 0, ni 42, ni 1, ns [114, 111, 119, 115], ni 0, ni 44, ni 1, ns [108, 111, 119], ni 0, ni 49, ni 4, ns [40], ni 0, ni 53, ni 1, ns [97], ni 0, ni 54, ni 1, ns [105, 110, 116], ni 0, ni 56, ni 1, ns [108, 111, 119], ni 0, ni 60, ni 4, ns [44], ni 0, ni 63, ni 1, ns [98], ni 0, ni 65, ni 1, ns [105, 110, 116], ni 0, ni 67, ni 1, ns [104, 105, 103, 104], ni 0, ni 71, ni 4, ns [41], ni 0, ni 75, ni 4, ns [59], ni 0, ni 76, ni 0, ns [], ni 0, ni 77])], .tup [.sl 145 0 25 4, ni 0, ni 0]⟩
theorem Kc_0_ok : KOk1 Tryz.prog 127 [ns [108, 101, 118, 101, 108, 115, 32, 108, 111, 119, 44, 32, 104, 105, 103, 104, 59, 32, 111, 114, 100, 101, 114, 32, 108, 111, 119, 32, 60, 32, 104, 105, 103, 104, 59, 32, 116, 97, 98, 108, 101, 32, 116, 32, 114, 111, 119, 115, 32, 108, 111, 119, 32, 40, 97, 32, 105, 110, 116, 32, 108, 111, 119, 44, 32, 98, 32, 105, 110, 116, 32, 104, 105, 103, 104, 41, 59]] Kc_0 := ran_ok (OT := OT) (k := 50000) (is := [145]) tt_ok rfl (kx_ok ktKc_ok kmKc_ok) (by kernel_rfl) rfl
end Go.Proofs.YthaekpmkjfmilaaGreat
