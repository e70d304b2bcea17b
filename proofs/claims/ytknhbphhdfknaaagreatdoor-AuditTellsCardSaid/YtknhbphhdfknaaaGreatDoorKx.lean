/- What is known of strings.IndexByte. -/
import Derived.Test.YtknhbphhdfknaaaGreatDoorOa
import Derived.Test.YtknhbphhdfknaaaGreatDoorMh
import Derived.Test.YtknhbphhdfknaaaGreatDoorCxT
import Derived.Lib.Bytealg
set_option maxRecDepth 100000
set_option linter.unusedVariables false
namespace Go.Proofs.YtknhbphhdfknaaaGreatDoor
open Go.RowKit
theorem ixb (s : ByteArray) (c : Int) (w : World) : Calls Tryz.prog 255 #[.string s, .int .u8 c] w fun e w' => e = .returned (.int .i64 (Lib.indexByte s.data.toList c.toNat.toUInt8)) ∧ w' = w := by
  refine calls_in 8 Tryz.func255 rfl rfl rfl fun a g => ?_
  refine c_seq (c_reg (run tt_ok 1 g rfl fun a g => ?_))
  refine c_seq (c_reg (run tt_ok 2 g rfl fun a g => ?_))
  have h3 := run_callFunc_extern (P := Tryz.prog) (f := 273) Tryz.func273 (by kernel_rfl) (by kernel_rfl) (by kernel_rfl) (e := Extern.BytealgIndexByte.indexByte) (by kernel_rfl) #[.string s, .int .u8 c] w
  rw [Lib.run_indexByteString] at h3
  simp only [Result.andThen] at h3
  refine s_ext g rfl rfl h3 rfl fun a g => ?_
  refine run tt_ok 1 g rfl fun a g => c_end ?_
  exact c_ret (r_ret (v := _) g rfl ⟨rfl, rfl⟩)
theorem ixb_ok (s : ByteArray) (c : Int) : KOk1 Tryz.prog 255 [.dat (.string s), .dat (.int .u8 c)] ⟨0, [], .dat (.int .i64 (Lib.indexByte s.data.toList c.toNat.toUInt8))⟩ := by
  refine ⟨⟨_, Tryz.func255, by kernel_rfl, by kernel_rfl⟩, fun w0 G0 D0 G L w rs hI hrs => ?_⟩
  simp only [RVs, RV] at hrs
  obtain ⟨r, rs', rfl, rfl, r2, rs2, rfl, rfl, rfl⟩ := hrs
  refine (ixb s c w).mono ?_
  rintro e' w' ⟨rfl, rfl⟩
  exact ⟨_, [], rfl, rfl, RV.dat, fun j o h => by simp at h, by simpa using hI⟩
noncomputable def kx1 : List AV → Option (List Nat × Kn)
  | [.dat (.string s), .dat (.int .u8 c)] => some ([], ⟨0, [], .dat (.int .i64 (Lib.indexByte s.data.toList c.toNat.toUInt8))⟩)
  | _ => none
noncomputable def kx0 (g : Nat) (vs : List AV) (H : Trie AO) : Option (List Nat × Kn) := bif Nat.beq g 255 then kx1 vs else none
theorem kx0_ok (G : GH) : KOk Tryz.prog G kx0 := by
  intro g vs H u hu
  unfold kx0 at hu
  cases hb : Nat.beq g 255 with
  | false => rw [hb] at hu; cases hu
  | true =>
    rw [hb] at hu
    obtain rfl := Nat.eq_of_beq_eq_true hb
    simp only [cond_true] at hu
    unfold kx1 at hu
    split at hu
    · rename_i s c; cases hu; exact ⟨(ixb_ok s c).1, fun w0 G0 D0 L sz w rs hI _ hrs => ((ixb_ok s c).2 w0 G0 D0 G L w rs hI hrs).mono fun e' w' ⟨r, L2, k1, k2⟩ => ⟨r, [], L2, k1, rfl, k2⟩⟩
    · cases hu
/-- Calls that are known: strings.IndexByte, and those of tables. -/
noncomputable def kx (l : List (Nat × List (List AV × Kn))) (m : List (Nat × List Kp)) : KTab := kor kx0 (kor (kt l) (km m))
theorem kx_ok {l : List (Nat × List (List AV × Kn))} {m : List (Nat × List Kp)} (h : KsOk Tryz.prog l) (h' : KmOk Tryz.prog m) (G : GH) : KOk Tryz.prog G (kx l m) := kor_ok (kx0_ok G) (kor_ok (kt_ok h G) (km_ok h' G))
end Go.Proofs.YtknhbphhdfknaaaGreatDoor
