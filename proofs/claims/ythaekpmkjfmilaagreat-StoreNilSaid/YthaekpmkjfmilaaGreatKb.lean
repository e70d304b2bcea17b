/- What is known of some calls of closed functions. Written by mach.py. -/
import Derived.Test.YthaekpmkjfmilaaGreatOa
import Derived.Test.YthaekpmkjfmilaaGreatKx
import Derived.Test.YthaekpmkjfmilaaGreatCxT
set_option maxRecDepth 100000
namespace Go.Proofs.YthaekpmkjfmilaaGreat
open Go.RowKit
def ktKb : List (Nat × List (List AV × Kn)) := []
def kmKb : List (Nat × List Kp) := []
theorem ktKb_ok : KsOk Tryz.prog ktKb := trivial
theorem kmKb_ok : KmOk Tryz.prog kmKb := trivial
def Kb_0 : Kn := ⟨182, [(181, .row 204 4 31 [ni 1, ns [108, 101, 118, 101, 108, 115], ni 0, ni 0, ni 1, ns [108, 111, 119], ni 0, ni 7, ni 4, ns [44], ni 0, ni 10, ni 1, ns [104, 105, 103, 104], ni 0, ni 12, ni 4, ns [59], ni 0, ni 16, ni 1, ns [111, 114, 100, 101, 114], ni 0, ni 18, ni 1, ns [108, 111, 119], ni 0, ni 24, ni 4, ns [60], ni 0, ni 28, ni 1, ns [104, 105, 103, 104], ni 0, ni 30, ni 4, ns [59], ni 0, ni 34, ni 1, ns [116, 97, 98, 108, 101], ni 0, ni 36, ni 1, ns [116], ni 0, ni 42, ni 1, ns [114, 111, 119, 115], ni 0, ni 44, ni 1, ns [108, 111, 119], ni 0, ni 49, ni 4, ns [40], ni 0, ni 53, ni 1, ns [97], ni 0, ni 54, ni 1, ns [105, 110, 116], ni 0, ni 56, ni 1, ns [108, 111, 119], ni 0, ni 60, ni 4, ns [41], ni 0, ni 63, ni 1, ns [107, 101, 121], ni 0, ni 65, ni 4, ns [40], ni 0, ni 69, ni 1, ns [97], ni 0, ni 70, ni 4, ns [41], ni 0, ni 71, ni 1, ns [104, 105, 100, 101], ni 0, ni 73, ni 1, ns [104, 105, 103, 104], ni 0, ni 78, ni 1, ns [119, 104, 101, 110], ni 0, ni 83, ni 1, ns [97], ni 0, ni 88, ni 4, ns [61], ni 0, ni 90, ni 2, ns [49], ni 1, ni 92, ni 4, ns [59], ni 0, ni 93, ni 0, ns [], ni 0, ni 94])], .tup [.sl 181 0 31 4, ni 0, ni 0]⟩
theorem Kb_0_ok : KOk1 Tryz.prog 127 [ns [108, 101, 118, 101, 108, 115, 32, 108, 111, 119, 44, 32, 104, 105, 103, 104, 59, 32, 111, 114, 100, 101, 114, 32, 108, 111, 119, 32, 60, 32, 104, 105, 103, 104, 59, 32, 116, 97, 98, 108, 101, 32, 116, 32, 114, 111, 119, 115, 32, 108, 111, 119, 32, 40, 97, 32, 105, 110, 116, 32, 108, 111, 119, 41, 32, 107, 101, 121, 32, 40, 97, 41, 32, 104, 105, 100, 101, 32, 104, 105, 103, 104, 32, 119, 104, 101, 110, 32, 97, 32, 61, 32, 49, 59]] Kb_0 := ran_ok (OT := OT) (k := 50000) (is := [181]) tt_ok rfl (kx_ok ktKb_ok kmKb_ok) (by kernel_rfl) rfl
end Go.Proofs.YthaekpmkjfmilaaGreat
