/- What is known of some calls of closed functions. Written by mach.py. -/
import Derived.Test.YtlokemkpgnngjaaGreatDoorKl
import Derived.Test.YtlokemkpgnngjaaGreatDoorOa
import Derived.Test.YtlokemkpgnngjaaGreatDoorKx
import Derived.Test.YtlokemkpgnngjaaGreatDoorCxT
set_option linter.unusedVariables false
set_option maxRecDepth 100000
namespace Go.Proofs.YtlokemkpgnngjaaGreatDoor
open Go.RowKit
def ktKm : List (Nat × List (List AV × Kn)) := [(22, [([], Kl_0)])]
def kmKm : List (Nat × List Kp) := []
theorem ktKm_ok : KsOk Tryz.prog ktKm := ⟨List.forall_mem_cons.2 ⟨Kl_0_ok, by simp⟩, trivial⟩
theorem kmKm_ok : KmOk Tryz.prog kmKm := trivial
def Km_u : Kn := ⟨1019, [], nb true⟩
theorem RV.agd {ps : List Pl} {l : List AV} {rs : List Value} (h : RVs ps l rs) : RV ps (.agg l) (.agg ⟨rs⟩) := by
  simp only [RV]; exact ⟨rs, rfl, h⟩
theorem Km_run {x0 : ByteArray} {x1 : Int} {x2_0 : Int} {x2_1 : Int} {Ax2_2 : Option Addr} {nx2_2 cx2_2 : Nat} {Ax2_3 : Option Addr} {nx2_3 cx2_3 : Nat} {Ax2_4 : Option Addr} {nx2_4 cx2_4 : Nat} {Ax2_5 : Option Addr} {nx2_5 cx2_5 : Nat} {Ax2_6 : Option Addr} {nx2_6 cx2_6 : Nat} {x2_7 : Int} : ran tt Tryz.prog OT (kx ktKm kmKm) 50000 5 [.dat (.string x0), .dat (.int .i64 x1), .agg [.dat (.int .i64 x2_0), .dat (.int .i64 x2_1), .dat (.slice Ax2_2 nx2_2 cx2_2), .dat (.slice Ax2_3 nx2_3 cx2_3), .dat (.slice Ax2_4 nx2_4 cx2_4), .dat (.slice Ax2_5 nx2_5 cx2_5), .dat (.slice Ax2_6 nx2_6 cx2_6), .dat (.int .i64 x2_7)]] [] = some Km_u := by kernel_rfl
theorem Km_yes {x0 : ByteArray} {x1 : Int} {x2_0 : Int} {x2_1 : Int} {Ax2_2 : Option Addr} {nx2_2 cx2_2 : Nat} {Ax2_3 : Option Addr} {nx2_3 cx2_3 : Nat} {Ax2_4 : Option Addr} {nx2_4 cx2_4 : Nat} {Ax2_5 : Option Addr} {nx2_5 cx2_5 : Nat} {Ax2_6 : Option Addr} {nx2_6 cx2_6 : Nat} {x2_7 : Int} {w : World} {G : GH} (hI : Inv w G [] G [] w) : Calls Tryz.prog 5 #[.string x0, .int .i64 x1, .agg ⟨[.int .i64 x2_0, .int .i64 x2_1, .slice Ax2_2 nx2_2 cx2_2, .slice Ax2_3 nx2_3 cx2_3, .slice Ax2_4 nx2_4 cx2_4, .slice Ax2_5 nx2_5 cx2_5, .slice Ax2_6 nx2_6 cx2_6, .int .i64 x2_7]⟩] w (Ret w G [] fun G' L' v => L' = [] ∧ v = .bool true) :=
  ran_at (OT := OT) (k := 50000) tt_ok rfl (kx_ok ktKm_ok kmKm_ok G) Km_run rfl (RVs.cons RV.dat (RVs.cons RV.dat (RVs.cons (RV.agd (RVs.cons RV.dat (RVs.cons RV.dat (RVs.cons RV.dat (RVs.cons RV.dat (RVs.cons RV.dat (RVs.cons RV.dat (RVs.cons RV.dat (RVs.cons RV.dat RVs.nil))))))))) RVs.nil))) hI
end Go.Proofs.YtlokemkpgnngjaaGreatDoor
