/- Calls that are known: those of tables. -/
import Derived.Test.YthaekpmkjfmilaaGreatMh
import Derived.Test.YthaekpmkjfmilaaGreatCxT
namespace Go.Proofs.YthaekpmkjfmilaaGreat
open Go.RowKit
noncomputable def kx (l : List (Nat × List (List AV × Kn))) (m : List (Nat × List Kp)) : KTab := kor (kt l) (km m)
theorem kx_ok {l : List (Nat × List (List AV × Kn))} {m : List (Nat × List Kp)} (h : KsOk Tryz.prog l) (h' : KmOk Tryz.prog m) (G : GH) : KOk Tryz.prog G (kx l m) := kor_ok (kt_ok h G) (km_ok h' G)
end Go.Proofs.YthaekpmkjfmilaaGreat
