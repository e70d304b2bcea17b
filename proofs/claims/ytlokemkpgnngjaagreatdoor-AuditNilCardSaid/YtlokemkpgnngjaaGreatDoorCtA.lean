/- What values of the seat's types are in memory. Written by mk.py. -/
import Derived.Test.YtlokemkpgnngjaaGreatDoorCxV
import Derived.Test.YtlokemkpgnngjaaGreatDoorCxT
import Derived.Test.YtlokemkpgnngjaaGreatDoorCpA
import Derived.Test.YtlokemkpgnngjaaGreatDoorKm
set_option linter.unusedVariables false
set_option linter.unusedSimpArgs false
set_option maxRecDepth 100000
namespace Go.Proofs.YtlokemkpgnngjaaGreatDoor
open Go.RowKit
theorem q : type_of% @tt_ok := @tt_ok
mutual
def TNode.d : TNode → D
  | .mk x0 x1 x2 x3 x4 => .st [.int .i64 x0, .int .i64 x1, .str x2, .sl 5 (TNode.ds x3), .sl 8 (TPlan.ds x4)]
def TPlan.d : TPlan → D
  | .mk x0 x1 x2 x3 x4 x5 x6 x7 => .st [.int .i64 x0, .int .i64 x1, .sl 8 (TPlan.ds x2), .sl 5 (TNode.ds x3), .sl 1 (x4.map (D.int .i64)), .sl 2 (TGather.ds x5), .sl 1 (x6.map D.bool), .int .i64 x7]
def TGather.d : TGather → D
  | .mk x0 x1 => .st [.str x0, .sl 5 (TNode.ds x1)]
def TNode.ds : List TNode → List D
  | [] => []
  | x :: xs => TNode.d x :: TNode.ds xs
def TPlan.ds : List TPlan → List D
  | [] => []
  | x :: xs => TPlan.d x :: TPlan.ds xs
def TGather.ds : List TGather → List D
  | [] => []
  | x :: xs => TGather.d x :: TGather.ds xs
end
theorem TNode.ds_eq : ∀ l : List TNode, TNode.ds l = l.map TNode.d
  | [] => by simp only [TNode.ds, List.map_nil]
  | x :: xs => by simp only [TNode.ds, List.map_cons, TNode.ds_eq xs]
theorem TPlan.ds_eq : ∀ l : List TPlan, TPlan.ds l = l.map TPlan.d
  | [] => by simp only [TPlan.ds, List.map_nil]
  | x :: xs => by simp only [TPlan.ds, List.map_cons, TPlan.ds_eq xs]
theorem TGather.ds_eq : ∀ l : List TGather, TGather.ds l = l.map TGather.d
  | [] => by simp only [TGather.ds, List.map_nil]
  | x :: xs => by simp only [TGather.ds, List.map_cons, TGather.ds_eq xs]
theorem TNode.inv {G : GH} {x : TNode} {cs : List Value} : Rep G x.d cs ↔ ∃ A3 c3 A4 c4, cs = [.int .i64 x.Kind, .int .i64 x.N, .string x.S, .slice A3 x.Kids.length c3, .slice A4 x.Plans.length c4] ∧ Sl G A3 c3 5 (x.Kids.map TNode.d) ∧ Sl G A4 c4 8 (x.Plans.map TPlan.d) := by
  obtain ⟨x_Kind, x_N, x_S, x_Kids, x_Plans⟩ := x
  simp only [TNode.d, TNode.ds_eq, TPlan.ds_eq, TGather.ds_eq, TNode.Kind, TNode.N, TNode.S, TNode.Kids, TNode.Plans, TPlan.Kind, TPlan.N, TPlan.Kids, TPlan.E, TPlan.Keys, TPlan.Aggs, TPlan.Desc, TPlan.Width, TGather.Fn, TGather.E, rep_st, repF_nil, repF_int, repF_bool, repF_str, repF_slm, repF_op, repF_mp, repF_ar]
  constructor
  · rintro ⟨_, rfl, _, rfl, _, rfl, A3, c3, _, rfl, h3, A4, c4, _, rfl, h4, rfl⟩; exact ⟨A3, c3, A4, c4, rfl, h3, h4⟩
  · rintro ⟨A3, c3, A4, c4, rfl, h3, h4⟩; exact ⟨_, rfl, _, rfl, _, rfl, A3, c3, _, rfl, h3, A4, c4, _, rfl, h4, rfl⟩
theorem TPlan.inv {G : GH} {x : TPlan} {cs : List Value} : Rep G x.d cs ↔ ∃ A2 c2 A3 c3 A4 c4 A5 c5 A6 c6, cs = [.int .i64 x.Kind, .int .i64 x.N, .slice A2 x.Kids.length c2, .slice A3 x.E.length c3, .slice A4 x.Keys.length c4, .slice A5 x.Aggs.length c5, .slice A6 x.Desc.length c6, .int .i64 x.Width] ∧ Sl G A2 c2 8 (x.Kids.map TPlan.d) ∧ Sl G A3 c3 5 (x.E.map TNode.d) ∧ Sl G A4 c4 1 (x.Keys.map (D.int .i64)) ∧ Sl G A5 c5 2 (x.Aggs.map TGather.d) ∧ Sl G A6 c6 1 (x.Desc.map D.bool) := by
  obtain ⟨x_Kind, x_N, x_Kids, x_E, x_Keys, x_Aggs, x_Desc, x_Width⟩ := x
  simp only [TPlan.d, TNode.ds_eq, TPlan.ds_eq, TGather.ds_eq, TNode.Kind, TNode.N, TNode.S, TNode.Kids, TNode.Plans, TPlan.Kind, TPlan.N, TPlan.Kids, TPlan.E, TPlan.Keys, TPlan.Aggs, TPlan.Desc, TPlan.Width, TGather.Fn, TGather.E, rep_st, repF_nil, repF_int, repF_bool, repF_str, repF_slm, repF_op, repF_mp, repF_ar]
  constructor
  · rintro ⟨_, rfl, _, rfl, A2, c2, _, rfl, h2, A3, c3, _, rfl, h3, A4, c4, _, rfl, h4, A5, c5, _, rfl, h5, A6, c6, _, rfl, h6, _, rfl, rfl⟩; exact ⟨A2, c2, A3, c3, A4, c4, A5, c5, A6, c6, rfl, h2, h3, h4, h5, h6⟩
  · rintro ⟨A2, c2, A3, c3, A4, c4, A5, c5, A6, c6, rfl, h2, h3, h4, h5, h6⟩; exact ⟨_, rfl, _, rfl, A2, c2, _, rfl, h2, A3, c3, _, rfl, h3, A4, c4, _, rfl, h4, A5, c5, _, rfl, h5, A6, c6, _, rfl, h6, _, rfl, rfl⟩
theorem TGather.inv {G : GH} {x : TGather} {cs : List Value} : Rep G x.d cs ↔ ∃ A1 c1, cs = [.string x.Fn, .slice A1 x.E.length c1] ∧ Sl G A1 c1 5 (x.E.map TNode.d) := by
  obtain ⟨x_Fn, x_E⟩ := x
  simp only [TGather.d, TNode.ds_eq, TPlan.ds_eq, TGather.ds_eq, TNode.Kind, TNode.N, TNode.S, TNode.Kids, TNode.Plans, TPlan.Kind, TPlan.N, TPlan.Kids, TPlan.E, TPlan.Keys, TPlan.Aggs, TPlan.Desc, TPlan.Width, TGather.Fn, TGather.E, rep_st, repF_nil, repF_int, repF_bool, repF_str, repF_slm, repF_op, repF_mp, repF_ar]
  constructor
  · rintro ⟨_, rfl, A1, c1, _, rfl, h1, rfl⟩; exact ⟨A1, c1, rfl, h1⟩
  · rintro ⟨A1, c1, rfl, h1⟩; exact ⟨_, rfl, A1, c1, _, rfl, h1, rfl⟩
def TGrant.d (x : TGrant) : D := .st [.str x.Table, .str x.Column]
theorem TGrant.inv {G : GH} {x : TGrant} {cs : List Value} : Rep G x.d cs ↔ cs = [.string x.Table, .string x.Column] := by
  simp only [TGrant.d, rep_st, repF_nil, repF_int, repF_bool, repF_str, repF_slm, repF_op, repF_mp, repF_ar]
  constructor
  · rintro ⟨_, rfl, _, rfl, rfl⟩; exact rfl
  · rintro rfl; exact ⟨_, rfl, _, rfl, rfl⟩
end Go.Proofs.YtlokemkpgnngjaaGreatDoor
