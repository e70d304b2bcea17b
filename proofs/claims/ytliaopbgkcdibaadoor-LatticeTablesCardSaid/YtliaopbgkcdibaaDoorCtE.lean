/- What values of the seat's types are in memory. Written by mk.py. -/
import Derived.Test.YtliaopbgkcdibaaDoorCxL
import Derived.Test.YtliaopbgkcdibaaDoorCxT
import Derived.Test.YtliaopbgkcdibaaDoorCpE
set_option linter.unusedVariables false
set_option linter.unusedSimpArgs false
set_option maxRecDepth 100000
namespace Go.Proofs.YtliaopbgkcdibaaDoor
open Go.RowKit
def TPair.d (x : TPair) : D := .st [.str x.Low, .str x.High]
theorem TPair.inv {G : GH} {x : TPair} {cs : List Value} : Rep G x.d cs ↔ cs = [.string x.Low, .string x.High] := by
  simp only [TPair.d, rep_st, repF_nil, repF_int, repF_bool, repF_str, repF_slm, repF_op, repF_mp, repF_ar]
  constructor
  · rintro ⟨_, rfl, _, rfl, rfl⟩; exact rfl
  · rintro rfl; exact ⟨_, rfl, _, rfl, rfl⟩
def Tlattice_Lattice.d (x : Tlattice_Lattice) : D := .st [.sl 1 (x.names_.map D.str), D.kv false D.str (D.int .i64) x.at_, .sl 1 (x.up_.map (D.int .u32)), .sl 1 (x.down_.map (D.int .u32)), D.ar .i64 256 x.join_, D.ar .i64 256 x.meet_]
theorem Tlattice_Lattice.inv {G : GH} {x : Tlattice_Lattice} {cs : List Value} : Rep G x.d cs ↔ ∃ A0 c0 A1 A2 c2 A3 c3, cs = ([.slice A0 x.names_.length c0, .map A1, .slice A2 x.up_.length c2, .slice A3 x.down_.length c3] ++ (arCells .i64 256 x.join_ ++ (arCells .i64 256 x.meet_ ++ []))) ∧ Sl G A0 c0 1 (x.names_.map D.str) ∧ Mp G A1 false D.str (D.int .i64) x.at_ ∧ Sl G A2 c2 1 (x.up_.map (D.int .u32)) ∧ Sl G A3 c3 1 (x.down_.map (D.int .u32)) := by
  simp only [Tlattice_Lattice.d, rep_st, repF_nil, repF_int, repF_bool, repF_str, repF_slm, repF_op, repF_mp, repF_ar]
  constructor
  · rintro ⟨A0, c0, _, rfl, h0, A1, _, rfl, h1, A2, c2, _, rfl, h2, A3, c3, _, rfl, h3, _, rfl, _, rfl, rfl⟩; exact ⟨A0, c0, A1, A2, c2, A3, c3, rfl, h0, h1, h2, h3⟩
  · rintro ⟨A0, c0, A1, A2, c2, A3, c3, rfl, h0, h1, h2, h3⟩; exact ⟨A0, c0, _, rfl, h0, A1, _, rfl, h1, A2, c2, _, rfl, h2, A3, c3, _, rfl, h3, _, rfl, _, rfl, rfl⟩
def Tref03_Lattice.d (x : Tref03_Lattice) : D := .st [.sl 1 (x.Names.map D.str), .sl 1 (x.Below.map (fun l => D.sl 1 (l.map D.bool)))]
theorem Tref03_Lattice.inv {G : GH} {x : Tref03_Lattice} {cs : List Value} : Rep G x.d cs ↔ ∃ A0 c0 A1 c1, cs = [.slice A0 x.Names.length c0, .slice A1 x.Below.length c1] ∧ Sl G A0 c0 1 (x.Names.map D.str) ∧ Sl G A1 c1 1 (x.Below.map (fun l => D.sl 1 (l.map D.bool))) := by
  simp only [Tref03_Lattice.d, rep_st, repF_nil, repF_int, repF_bool, repF_str, repF_slm, repF_op, repF_mp, repF_ar]
  constructor
  · rintro ⟨A0, c0, _, rfl, h0, A1, c1, _, rfl, h1, rfl⟩; exact ⟨A0, c0, A1, c1, rfl, h0, h1⟩
  · rintro ⟨A0, c0, A1, c1, rfl, h0, h1⟩; exact ⟨A0, c0, _, rfl, h0, A1, c1, _, rfl, h1, rfl⟩
/-- The package-level variable 0 holds its table. -/
def Gl0 (G : GH) : Prop := At G 0 0 (gt0.map (Value.int .u8))
theorem Gl0.mono {G G' : GH} (l : G.le G') (h : Gl0 G) : Gl0 G' := At.mono l h
theorem ai_22 : AppI Tryd.prog 22 9 1 := app_of (by kernel_rfl)
theorem ai_23 : AppI Tryd.prog 23 45 2 := app_of (by kernel_rfl)
theorem ai_36 : AppI Tryd.prog 36 3 1 := app_of (by kernel_rfl)
theorem ai_50 : AppI Tryd.prog 50 64 1 := app_of (by kernel_rfl)
theorem ai_58 : AppI Tryd.prog 58 61 1 := app_of (by kernel_rfl)
theorem ai_61 : AppI Tryd.prog 61 4 1 := app_of (by kernel_rfl)
end Go.Proofs.YtliaopbgkcdibaaDoor
