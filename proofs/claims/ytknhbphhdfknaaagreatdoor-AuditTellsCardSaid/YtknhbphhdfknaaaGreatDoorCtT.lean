/- What values of the seat's types are in memory. Written by mk.py. -/
import Derived.Test.YtknhbphhdfknaaaGreatDoorCxV
import Derived.Test.YtknhbphhdfknaaaGreatDoorCxT
import Derived.Test.YtknhbphhdfknaaaGreatDoorCpT
import Derived.Test.YtknhbphhdfknaaaGreatDoorKl
set_option linter.unusedVariables false
set_option linter.unusedSimpArgs false
set_option maxRecDepth 100000
namespace Go.Proofs.YtknhbphhdfknaaaGreatDoor
open Go.RowKit
theorem q : type_of% @tt_ok := @tt_ok
def TPair.d (x : TPair) : D := .st [.str x.Low, .str x.High]
theorem TPair.inv {G : GH} {x : TPair} {cs : List Value} : Rep G x.d cs ↔ cs = [.string x.Low, .string x.High] := by
  simp only [TPair.d, rep_st, repF_nil, repF_int, repF_bool, repF_str, repF_slm, repF_op, repF_mp, repF_ar]
  constructor
  · rintro ⟨_, rfl, _, rfl, rfl⟩; exact rfl
  · rintro rfl; exact ⟨_, rfl, _, rfl, rfl⟩
mutual
def TQuery.d : TQuery → D
  | .mk x0 x1 x2 x3 x4 x5 x6 x7 x8 x9 => .st [.int .i64 x0, .bool x1, .sl 7 (TItem.ds x2), .sl 7 (TFrom.ds x3), .sl 6 (TExpr.ds x4), .sl 6 (TExpr.ds x5), .sl 6 (TExpr.ds x6), .sl 7 (TKey.ds x7), .int .i64 x8, .sl 10 (TQuery.ds x9)]
def TExpr.d : TExpr → D
  | .mk x0 x1 x2 x3 x4 x5 => .st [.int .i64 x0, .int .i64 x1, .str x2, .str x3, .sl 6 (TExpr.ds x4), .sl 10 (TQuery.ds x5)]
def TItem.d : TItem → D
  | .mk (.mk x0 x1 x2 x3 x4 x5) x6 => .st [.int .i64 x0, .int .i64 x1, .str x2, .str x3, .sl 6 (TExpr.ds x4), .sl 10 (TQuery.ds x5), .str x6]
def TFrom.d : TFrom → D
  | .mk x0 x1 x2 x3 x4 x5 x6 => .st [.int .i64 x0, .str x1, .bool x2, .str x3, .sl 10 (TQuery.ds x4), .sl 7 (TFrom.ds x5), .sl 6 (TExpr.ds x6)]
def TKey.d : TKey → D
  | .mk (.mk x0 x1 x2 x3 x4 x5) x6 => .st [.int .i64 x0, .int .i64 x1, .str x2, .str x3, .sl 6 (TExpr.ds x4), .sl 10 (TQuery.ds x5), .bool x6]
def TQuery.ds : List TQuery → List D
  | [] => []
  | x :: xs => TQuery.d x :: TQuery.ds xs
def TExpr.ds : List TExpr → List D
  | [] => []
  | x :: xs => TExpr.d x :: TExpr.ds xs
def TItem.ds : List TItem → List D
  | [] => []
  | x :: xs => TItem.d x :: TItem.ds xs
def TFrom.ds : List TFrom → List D
  | [] => []
  | x :: xs => TFrom.d x :: TFrom.ds xs
def TKey.ds : List TKey → List D
  | [] => []
  | x :: xs => TKey.d x :: TKey.ds xs
end
theorem TQuery.ds_eq : ∀ l : List TQuery, TQuery.ds l = l.map TQuery.d
  | [] => by simp only [TQuery.ds, List.map_nil]
  | x :: xs => by simp only [TQuery.ds, List.map_cons, TQuery.ds_eq xs]
theorem TExpr.ds_eq : ∀ l : List TExpr, TExpr.ds l = l.map TExpr.d
  | [] => by simp only [TExpr.ds, List.map_nil]
  | x :: xs => by simp only [TExpr.ds, List.map_cons, TExpr.ds_eq xs]
theorem TItem.ds_eq : ∀ l : List TItem, TItem.ds l = l.map TItem.d
  | [] => by simp only [TItem.ds, List.map_nil]
  | x :: xs => by simp only [TItem.ds, List.map_cons, TItem.ds_eq xs]
theorem TFrom.ds_eq : ∀ l : List TFrom, TFrom.ds l = l.map TFrom.d
  | [] => by simp only [TFrom.ds, List.map_nil]
  | x :: xs => by simp only [TFrom.ds, List.map_cons, TFrom.ds_eq xs]
theorem TKey.ds_eq : ∀ l : List TKey, TKey.ds l = l.map TKey.d
  | [] => by simp only [TKey.ds, List.map_nil]
  | x :: xs => by simp only [TKey.ds, List.map_cons, TKey.ds_eq xs]
theorem TQuery.inv {G : GH} {x : TQuery} {cs : List Value} : Rep G x.d cs ↔ ∃ A2 c2 A3 c3 A4 c4 A5 c5 A6 c6 A7 c7 A9 c9, cs = [.int .i64 x.Kind, .bool x.Distinct, .slice A2 x.Items.length c2, .slice A3 x.From.length c3, .slice A4 x.Where.length c4, .slice A5 x.Group.length c5, .slice A6 x.Having.length c6, .slice A7 x.Order.length c7, .int .i64 x.Limit, .slice A9 x.Kids.length c9] ∧ Sl G A2 c2 7 (x.Items.map TItem.d) ∧ Sl G A3 c3 7 (x.From.map TFrom.d) ∧ Sl G A4 c4 6 (x.Where.map TExpr.d) ∧ Sl G A5 c5 6 (x.Group.map TExpr.d) ∧ Sl G A6 c6 6 (x.Having.map TExpr.d) ∧ Sl G A7 c7 7 (x.Order.map TKey.d) ∧ Sl G A9 c9 10 (x.Kids.map TQuery.d) := by
  obtain ⟨x_Kind, x_Distinct, x_Items, x_From, x_Where, x_Group, x_Having, x_Order, x_Limit, x_Kids⟩ := x
  simp only [TQuery.d, TQuery.ds_eq, TExpr.ds_eq, TItem.ds_eq, TFrom.ds_eq, TKey.ds_eq, TQuery.Kind, TQuery.Distinct, TQuery.Items, TQuery.From, TQuery.Where, TQuery.Group, TQuery.Having, TQuery.Order, TQuery.Limit, TQuery.Kids, TExpr.Kind, TExpr.N, TExpr.S, TExpr.T, TExpr.Kids, TExpr.Q, TItem.E, TItem.Name, TFrom.Kind, TFrom.Table, TFrom.Visible, TFrom.As, TFrom.Q, TFrom.Kids, TFrom.On, TKey.E, TKey.Desc, rep_st, repF_nil, repF_int, repF_bool, repF_str, repF_slm, repF_op, repF_mp, repF_ar]
  constructor
  · rintro ⟨_, rfl, _, rfl, A2, c2, _, rfl, h2, A3, c3, _, rfl, h3, A4, c4, _, rfl, h4, A5, c5, _, rfl, h5, A6, c6, _, rfl, h6, A7, c7, _, rfl, h7, _, rfl, A9, c9, _, rfl, h9, rfl⟩; exact ⟨A2, c2, A3, c3, A4, c4, A5, c5, A6, c6, A7, c7, A9, c9, rfl, h2, h3, h4, h5, h6, h7, h9⟩
  · rintro ⟨A2, c2, A3, c3, A4, c4, A5, c5, A6, c6, A7, c7, A9, c9, rfl, h2, h3, h4, h5, h6, h7, h9⟩; exact ⟨_, rfl, _, rfl, A2, c2, _, rfl, h2, A3, c3, _, rfl, h3, A4, c4, _, rfl, h4, A5, c5, _, rfl, h5, A6, c6, _, rfl, h6, A7, c7, _, rfl, h7, _, rfl, A9, c9, _, rfl, h9, rfl⟩
theorem TExpr.inv {G : GH} {x : TExpr} {cs : List Value} : Rep G x.d cs ↔ ∃ A4 c4 A5 c5, cs = [.int .i64 x.Kind, .int .i64 x.N, .string x.S, .string x.T, .slice A4 x.Kids.length c4, .slice A5 x.Q.length c5] ∧ Sl G A4 c4 6 (x.Kids.map TExpr.d) ∧ Sl G A5 c5 10 (x.Q.map TQuery.d) := by
  obtain ⟨x_Kind, x_N, x_S, x_T, x_Kids, x_Q⟩ := x
  simp only [TExpr.d, TQuery.ds_eq, TExpr.ds_eq, TItem.ds_eq, TFrom.ds_eq, TKey.ds_eq, TQuery.Kind, TQuery.Distinct, TQuery.Items, TQuery.From, TQuery.Where, TQuery.Group, TQuery.Having, TQuery.Order, TQuery.Limit, TQuery.Kids, TExpr.Kind, TExpr.N, TExpr.S, TExpr.T, TExpr.Kids, TExpr.Q, TItem.E, TItem.Name, TFrom.Kind, TFrom.Table, TFrom.Visible, TFrom.As, TFrom.Q, TFrom.Kids, TFrom.On, TKey.E, TKey.Desc, rep_st, repF_nil, repF_int, repF_bool, repF_str, repF_slm, repF_op, repF_mp, repF_ar]
  constructor
  · rintro ⟨_, rfl, _, rfl, _, rfl, _, rfl, A4, c4, _, rfl, h4, A5, c5, _, rfl, h5, rfl⟩; exact ⟨A4, c4, A5, c5, rfl, h4, h5⟩
  · rintro ⟨A4, c4, A5, c5, rfl, h4, h5⟩; exact ⟨_, rfl, _, rfl, _, rfl, _, rfl, A4, c4, _, rfl, h4, A5, c5, _, rfl, h5, rfl⟩
theorem TItem.inv {G : GH} {x : TItem} {cs : List Value} : Rep G x.d cs ↔ ∃ A4 c4 A5 c5, cs = [.int .i64 x.E.Kind, .int .i64 x.E.N, .string x.E.S, .string x.E.T, .slice A4 x.E.Kids.length c4, .slice A5 x.E.Q.length c5, .string x.Name] ∧ Sl G A4 c4 6 (x.E.Kids.map TExpr.d) ∧ Sl G A5 c5 10 (x.E.Q.map TQuery.d) := by
  obtain ⟨x_E, x_Name⟩ := x
  obtain ⟨x_E_Kind, x_E_N, x_E_S, x_E_T, x_E_Kids, x_E_Q⟩ := x_E
  simp only [TItem.d, TQuery.ds_eq, TExpr.ds_eq, TItem.ds_eq, TFrom.ds_eq, TKey.ds_eq, TQuery.Kind, TQuery.Distinct, TQuery.Items, TQuery.From, TQuery.Where, TQuery.Group, TQuery.Having, TQuery.Order, TQuery.Limit, TQuery.Kids, TExpr.Kind, TExpr.N, TExpr.S, TExpr.T, TExpr.Kids, TExpr.Q, TItem.E, TItem.Name, TFrom.Kind, TFrom.Table, TFrom.Visible, TFrom.As, TFrom.Q, TFrom.Kids, TFrom.On, TKey.E, TKey.Desc, rep_st, repF_nil, repF_int, repF_bool, repF_str, repF_slm, repF_op, repF_mp, repF_ar]
  constructor
  · rintro ⟨_, rfl, _, rfl, _, rfl, _, rfl, A4, c4, _, rfl, h4, A5, c5, _, rfl, h5, _, rfl, rfl⟩; exact ⟨A4, c4, A5, c5, rfl, h4, h5⟩
  · rintro ⟨A4, c4, A5, c5, rfl, h4, h5⟩; exact ⟨_, rfl, _, rfl, _, rfl, _, rfl, A4, c4, _, rfl, h4, A5, c5, _, rfl, h5, _, rfl, rfl⟩
theorem TFrom.inv {G : GH} {x : TFrom} {cs : List Value} : Rep G x.d cs ↔ ∃ A4 c4 A5 c5 A6 c6, cs = [.int .i64 x.Kind, .string x.Table, .bool x.Visible, .string x.As, .slice A4 x.Q.length c4, .slice A5 x.Kids.length c5, .slice A6 x.On.length c6] ∧ Sl G A4 c4 10 (x.Q.map TQuery.d) ∧ Sl G A5 c5 7 (x.Kids.map TFrom.d) ∧ Sl G A6 c6 6 (x.On.map TExpr.d) := by
  obtain ⟨x_Kind, x_Table, x_Visible, x_As, x_Q, x_Kids, x_On⟩ := x
  simp only [TFrom.d, TQuery.ds_eq, TExpr.ds_eq, TItem.ds_eq, TFrom.ds_eq, TKey.ds_eq, TQuery.Kind, TQuery.Distinct, TQuery.Items, TQuery.From, TQuery.Where, TQuery.Group, TQuery.Having, TQuery.Order, TQuery.Limit, TQuery.Kids, TExpr.Kind, TExpr.N, TExpr.S, TExpr.T, TExpr.Kids, TExpr.Q, TItem.E, TItem.Name, TFrom.Kind, TFrom.Table, TFrom.Visible, TFrom.As, TFrom.Q, TFrom.Kids, TFrom.On, TKey.E, TKey.Desc, rep_st, repF_nil, repF_int, repF_bool, repF_str, repF_slm, repF_op, repF_mp, repF_ar]
  constructor
  · rintro ⟨_, rfl, _, rfl, _, rfl, _, rfl, A4, c4, _, rfl, h4, A5, c5, _, rfl, h5, A6, c6, _, rfl, h6, rfl⟩; exact ⟨A4, c4, A5, c5, A6, c6, rfl, h4, h5, h6⟩
  · rintro ⟨A4, c4, A5, c5, A6, c6, rfl, h4, h5, h6⟩; exact ⟨_, rfl, _, rfl, _, rfl, _, rfl, A4, c4, _, rfl, h4, A5, c5, _, rfl, h5, A6, c6, _, rfl, h6, rfl⟩
theorem TKey.inv {G : GH} {x : TKey} {cs : List Value} : Rep G x.d cs ↔ ∃ A4 c4 A5 c5, cs = [.int .i64 x.E.Kind, .int .i64 x.E.N, .string x.E.S, .string x.E.T, .slice A4 x.E.Kids.length c4, .slice A5 x.E.Q.length c5, .bool x.Desc] ∧ Sl G A4 c4 6 (x.E.Kids.map TExpr.d) ∧ Sl G A5 c5 10 (x.E.Q.map TQuery.d) := by
  obtain ⟨x_E, x_Desc⟩ := x
  obtain ⟨x_E_Kind, x_E_N, x_E_S, x_E_T, x_E_Kids, x_E_Q⟩ := x_E
  simp only [TKey.d, TQuery.ds_eq, TExpr.ds_eq, TItem.ds_eq, TFrom.ds_eq, TKey.ds_eq, TQuery.Kind, TQuery.Distinct, TQuery.Items, TQuery.From, TQuery.Where, TQuery.Group, TQuery.Having, TQuery.Order, TQuery.Limit, TQuery.Kids, TExpr.Kind, TExpr.N, TExpr.S, TExpr.T, TExpr.Kids, TExpr.Q, TItem.E, TItem.Name, TFrom.Kind, TFrom.Table, TFrom.Visible, TFrom.As, TFrom.Q, TFrom.Kids, TFrom.On, TKey.E, TKey.Desc, rep_st, repF_nil, repF_int, repF_bool, repF_str, repF_slm, repF_op, repF_mp, repF_ar]
  constructor
  · rintro ⟨_, rfl, _, rfl, _, rfl, _, rfl, A4, c4, _, rfl, h4, A5, c5, _, rfl, h5, _, rfl, rfl⟩; exact ⟨A4, c4, A5, c5, rfl, h4, h5⟩
  · rintro ⟨A4, c4, A5, c5, rfl, h4, h5⟩; exact ⟨_, rfl, _, rfl, _, rfl, _, rfl, A4, c4, _, rfl, h4, A5, c5, _, rfl, h5, _, rfl, rfl⟩
def TCol.d (x : TCol) : D := .st [.str x.Name, .int .i64 x.Type_, .bool x.Null, .str x.Level]
theorem TCol.inv {G : GH} {x : TCol} {cs : List Value} : Rep G x.d cs ↔ cs = [.string x.Name, .int .i64 x.Type_, .bool x.Null, .string x.Level] := by
  simp only [TCol.d, rep_st, repF_nil, repF_int, repF_bool, repF_str, repF_slm, repF_op, repF_mp, repF_ar]
  constructor
  · rintro ⟨_, rfl, _, rfl, _, rfl, _, rfl, rfl⟩; exact rfl
  · rintro rfl; exact ⟨_, rfl, _, rfl, _, rfl, _, rfl, rfl⟩
def TTable.d (x : TTable) : D := .st [.str x.Name, .str x.Rows, .sl 4 (x.Cols.map TCol.d), .sl 1 (x.Key.map D.str), .str x.Hide, .sl 6 (x.When.map TExpr.d)]
theorem TTable.inv {G : GH} {x : TTable} {cs : List Value} : Rep G x.d cs ↔ ∃ A2 c2 A3 c3 A5 c5, cs = [.string x.Name, .string x.Rows, .slice A2 x.Cols.length c2, .slice A3 x.Key.length c3, .string x.Hide, .slice A5 x.When.length c5] ∧ Sl G A2 c2 4 (x.Cols.map TCol.d) ∧ Sl G A3 c3 1 (x.Key.map D.str) ∧ Sl G A5 c5 6 (x.When.map TExpr.d) := by
  simp only [TTable.d, rep_st, repF_nil, repF_int, repF_bool, repF_str, repF_slm, repF_op, repF_mp, repF_ar]
  constructor
  · rintro ⟨_, rfl, _, rfl, A2, c2, _, rfl, h2, A3, c3, _, rfl, h3, _, rfl, A5, c5, _, rfl, h5, rfl⟩; exact ⟨A2, c2, A3, c3, A5, c5, rfl, h2, h3, h5⟩
  · rintro ⟨A2, c2, A3, c3, A5, c5, rfl, h2, h3, h5⟩; exact ⟨_, rfl, _, rfl, A2, c2, _, rfl, h2, A3, c3, _, rfl, h3, _, rfl, A5, c5, _, rfl, h5, rfl⟩
def TSchema.d (x : TSchema) : D := .st [.sl 1 (x.Levels.map D.str), .sl 2 (x.Edges.map TPair.d), .sl 6 (x.Tables.map TTable.d), .sl 2 (x.Channels.map TPair.d), .sl 2 (x.Principals.map TPair.d), .int .i64 x.Limit]
theorem TSchema.inv {G : GH} {x : TSchema} {cs : List Value} : Rep G x.d cs ↔ ∃ A0 c0 A1 c1 A2 c2 A3 c3 A4 c4, cs = [.slice A0 x.Levels.length c0, .slice A1 x.Edges.length c1, .slice A2 x.Tables.length c2, .slice A3 x.Channels.length c3, .slice A4 x.Principals.length c4, .int .i64 x.Limit] ∧ Sl G A0 c0 1 (x.Levels.map D.str) ∧ Sl G A1 c1 2 (x.Edges.map TPair.d) ∧ Sl G A2 c2 6 (x.Tables.map TTable.d) ∧ Sl G A3 c3 2 (x.Channels.map TPair.d) ∧ Sl G A4 c4 2 (x.Principals.map TPair.d) := by
  simp only [TSchema.d, rep_st, repF_nil, repF_int, repF_bool, repF_str, repF_slm, repF_op, repF_mp, repF_ar]
  constructor
  · rintro ⟨A0, c0, _, rfl, h0, A1, c1, _, rfl, h1, A2, c2, _, rfl, h2, A3, c3, _, rfl, h3, A4, c4, _, rfl, h4, _, rfl, rfl⟩; exact ⟨A0, c0, A1, c1, A2, c2, A3, c3, A4, c4, rfl, h0, h1, h2, h3, h4⟩
  · rintro ⟨A0, c0, A1, c1, A2, c2, A3, c3, A4, c4, rfl, h0, h1, h2, h3, h4⟩; exact ⟨A0, c0, _, rfl, h0, A1, c1, _, rfl, h1, A2, c2, _, rfl, h2, A3, c3, _, rfl, h3, A4, c4, _, rfl, h4, _, rfl, rfl⟩
def TField.d (x : TField) : D := .st [.str x.Name, .int .i64 x.Type_, .bool x.Null, .int .i64 x.Level]
theorem TField.inv {G : GH} {x : TField} {cs : List Value} : Rep G x.d cs ↔ cs = [.string x.Name, .int .i64 x.Type_, .bool x.Null, .int .i64 x.Level] := by
  simp only [TField.d, rep_st, repF_nil, repF_int, repF_bool, repF_str, repF_slm, repF_op, repF_mp, repF_ar]
  constructor
  · rintro ⟨_, rfl, _, rfl, _, rfl, _, rfl, rfl⟩; exact rfl
  · rintro rfl; exact ⟨_, rfl, _, rfl, _, rfl, _, rfl, rfl⟩
def TRelation.d (x : TRelation) : D := .st [.str x.Name, .int .i64 x.Rows, .sl 4 (x.Cols.map TField.d), .sl 1 (x.Key.map (D.int .i64)), .int .i64 x.Hide, .sl 6 (x.When.map TExpr.d)]
theorem TRelation.inv {G : GH} {x : TRelation} {cs : List Value} : Rep G x.d cs ↔ ∃ A2 c2 A3 c3 A5 c5, cs = [.string x.Name, .int .i64 x.Rows, .slice A2 x.Cols.length c2, .slice A3 x.Key.length c3, .int .i64 x.Hide, .slice A5 x.When.length c5] ∧ Sl G A2 c2 4 (x.Cols.map TField.d) ∧ Sl G A3 c3 1 (x.Key.map (D.int .i64)) ∧ Sl G A5 c5 6 (x.When.map TExpr.d) := by
  simp only [TRelation.d, rep_st, repF_nil, repF_int, repF_bool, repF_str, repF_slm, repF_op, repF_mp, repF_ar]
  constructor
  · rintro ⟨_, rfl, _, rfl, A2, c2, _, rfl, h2, A3, c3, _, rfl, h3, _, rfl, A5, c5, _, rfl, h5, rfl⟩; exact ⟨A2, c2, A3, c3, A5, c5, rfl, h2, h3, h5⟩
  · rintro ⟨A2, c2, A3, c3, A5, c5, rfl, h2, h3, h5⟩; exact ⟨_, rfl, _, rfl, A2, c2, _, rfl, h2, A3, c3, _, rfl, h3, _, rfl, A5, c5, _, rfl, h5, rfl⟩
def TNamed.d (x : TNamed) : D := .st [.str x.Name, .int .i64 x.Level]
theorem TNamed.inv {G : GH} {x : TNamed} {cs : List Value} : Rep G x.d cs ↔ cs = [.string x.Name, .int .i64 x.Level] := by
  simp only [TNamed.d, rep_st, repF_nil, repF_int, repF_bool, repF_str, repF_slm, repF_op, repF_mp, repF_ar]
  constructor
  · rintro ⟨_, rfl, _, rfl, rfl⟩; exact rfl
  · rintro rfl; exact ⟨_, rfl, _, rfl, rfl⟩
def Tref03_Lattice.d (x : Tref03_Lattice) : D := .st [.sl 1 (x.Names.map D.str), .sl 1 (x.Below.map (fun l => D.sl 1 (l.map D.bool)))]
theorem Tref03_Lattice.inv {G : GH} {x : Tref03_Lattice} {cs : List Value} : Rep G x.d cs ↔ ∃ A0 c0 A1 c1, cs = [.slice A0 x.Names.length c0, .slice A1 x.Below.length c1] ∧ Sl G A0 c0 1 (x.Names.map D.str) ∧ Sl G A1 c1 1 (x.Below.map (fun l => D.sl 1 (l.map D.bool))) := by
  simp only [Tref03_Lattice.d, rep_st, repF_nil, repF_int, repF_bool, repF_str, repF_slm, repF_op, repF_mp, repF_ar]
  constructor
  · rintro ⟨A0, c0, _, rfl, h0, A1, c1, _, rfl, h1, rfl⟩; exact ⟨A0, c0, A1, c1, rfl, h0, h1⟩
  · rintro ⟨A0, c0, A1, c1, rfl, h0, h1⟩; exact ⟨A0, c0, _, rfl, h0, A1, c1, _, rfl, h1, rfl⟩
def Tref08_Catalog.d (x : Tref08_Catalog) : D := .st [D.op 99 Tref03_Lattice.d x.L, .sl 6 (x.Tables.map TRelation.d), .sl 2 (x.Channels.map TNamed.d), .sl 2 (x.Principals.map TNamed.d), .int .i64 x.Limit]
theorem Tref08_Catalog.inv {G : GH} {x : Tref08_Catalog} {cs : List Value} : Rep G x.d cs ↔ ∃ A0 A1 c1 A2 c2 A3 c3, cs = [.pointer A0, .slice A1 x.Tables.length c1, .slice A2 x.Channels.length c2, .slice A3 x.Principals.length c3, .int .i64 x.Limit] ∧ Pt G A0 99 Tref03_Lattice.d x.L ∧ Sl G A1 c1 6 (x.Tables.map TRelation.d) ∧ Sl G A2 c2 2 (x.Channels.map TNamed.d) ∧ Sl G A3 c3 2 (x.Principals.map TNamed.d) := by
  simp only [Tref08_Catalog.d, rep_st, repF_nil, repF_int, repF_bool, repF_str, repF_slm, repF_op, repF_mp, repF_ar]
  constructor
  · rintro ⟨A0, _, rfl, h0, A1, c1, _, rfl, h1, A2, c2, _, rfl, h2, A3, c3, _, rfl, h3, _, rfl, rfl⟩; exact ⟨A0, A1, c1, A2, c2, A3, c3, rfl, h0, h1, h2, h3⟩
  · rintro ⟨A0, A1, c1, A2, c2, A3, c3, rfl, h0, h1, h2, h3⟩; exact ⟨A0, _, rfl, h0, A1, c1, _, rfl, h1, A2, c2, _, rfl, h2, A3, c3, _, rfl, h3, _, rfl, rfl⟩
def TGrant.d (x : TGrant) : D := .st [.str x.Table, .str x.Column]
theorem TGrant.inv {G : GH} {x : TGrant} {cs : List Value} : Rep G x.d cs ↔ cs = [.string x.Table, .string x.Column] := by
  simp only [TGrant.d, rep_st, repF_nil, repF_int, repF_bool, repF_str, repF_slm, repF_op, repF_mp, repF_ar]
  constructor
  · rintro ⟨_, rfl, _, rfl, rfl⟩; exact rfl
  · rintro rfl; exact ⟨_, rfl, _, rfl, rfl⟩
mutual
def TPlan.d : TPlan → D
  | .mk x0 x1 x2 x3 x4 x5 x6 x7 => .st [.int .i64 x0, .int .i64 x1, .sl 8 (TPlan.ds x2), .sl 5 (TNode.ds x3), .sl 1 (x4.map (D.int .i64)), .sl 2 (TGather.ds x5), .sl 1 (x6.map D.bool), .int .i64 x7]
def TNode.d : TNode → D
  | .mk x0 x1 x2 x3 x4 => .st [.int .i64 x0, .int .i64 x1, .str x2, .sl 5 (TNode.ds x3), .sl 8 (TPlan.ds x4)]
def TGather.d : TGather → D
  | .mk x0 x1 => .st [.str x0, .sl 5 (TNode.ds x1)]
def TPlan.ds : List TPlan → List D
  | [] => []
  | x :: xs => TPlan.d x :: TPlan.ds xs
def TNode.ds : List TNode → List D
  | [] => []
  | x :: xs => TNode.d x :: TNode.ds xs
def TGather.ds : List TGather → List D
  | [] => []
  | x :: xs => TGather.d x :: TGather.ds xs
end
theorem TPlan.ds_eq : ∀ l : List TPlan, TPlan.ds l = l.map TPlan.d
  | [] => by simp only [TPlan.ds, List.map_nil]
  | x :: xs => by simp only [TPlan.ds, List.map_cons, TPlan.ds_eq xs]
theorem TNode.ds_eq : ∀ l : List TNode, TNode.ds l = l.map TNode.d
  | [] => by simp only [TNode.ds, List.map_nil]
  | x :: xs => by simp only [TNode.ds, List.map_cons, TNode.ds_eq xs]
theorem TGather.ds_eq : ∀ l : List TGather, TGather.ds l = l.map TGather.d
  | [] => by simp only [TGather.ds, List.map_nil]
  | x :: xs => by simp only [TGather.ds, List.map_cons, TGather.ds_eq xs]
theorem TPlan.inv {G : GH} {x : TPlan} {cs : List Value} : Rep G x.d cs ↔ ∃ A2 c2 A3 c3 A4 c4 A5 c5 A6 c6, cs = [.int .i64 x.Kind, .int .i64 x.N, .slice A2 x.Kids.length c2, .slice A3 x.E.length c3, .slice A4 x.Keys.length c4, .slice A5 x.Aggs.length c5, .slice A6 x.Desc.length c6, .int .i64 x.Width] ∧ Sl G A2 c2 8 (x.Kids.map TPlan.d) ∧ Sl G A3 c3 5 (x.E.map TNode.d) ∧ Sl G A4 c4 1 (x.Keys.map (D.int .i64)) ∧ Sl G A5 c5 2 (x.Aggs.map TGather.d) ∧ Sl G A6 c6 1 (x.Desc.map D.bool) := by
  obtain ⟨x_Kind, x_N, x_Kids, x_E, x_Keys, x_Aggs, x_Desc, x_Width⟩ := x
  simp only [TPlan.d, TPlan.ds_eq, TNode.ds_eq, TGather.ds_eq, TPlan.Kind, TPlan.N, TPlan.Kids, TPlan.E, TPlan.Keys, TPlan.Aggs, TPlan.Desc, TPlan.Width, TNode.Kind, TNode.N, TNode.S, TNode.Kids, TNode.Plans, TGather.Fn, TGather.E, rep_st, repF_nil, repF_int, repF_bool, repF_str, repF_slm, repF_op, repF_mp, repF_ar]
  constructor
  · rintro ⟨_, rfl, _, rfl, A2, c2, _, rfl, h2, A3, c3, _, rfl, h3, A4, c4, _, rfl, h4, A5, c5, _, rfl, h5, A6, c6, _, rfl, h6, _, rfl, rfl⟩; exact ⟨A2, c2, A3, c3, A4, c4, A5, c5, A6, c6, rfl, h2, h3, h4, h5, h6⟩
  · rintro ⟨A2, c2, A3, c3, A4, c4, A5, c5, A6, c6, rfl, h2, h3, h4, h5, h6⟩; exact ⟨_, rfl, _, rfl, A2, c2, _, rfl, h2, A3, c3, _, rfl, h3, A4, c4, _, rfl, h4, A5, c5, _, rfl, h5, A6, c6, _, rfl, h6, _, rfl, rfl⟩
theorem TNode.inv {G : GH} {x : TNode} {cs : List Value} : Rep G x.d cs ↔ ∃ A3 c3 A4 c4, cs = [.int .i64 x.Kind, .int .i64 x.N, .string x.S, .slice A3 x.Kids.length c3, .slice A4 x.Plans.length c4] ∧ Sl G A3 c3 5 (x.Kids.map TNode.d) ∧ Sl G A4 c4 8 (x.Plans.map TPlan.d) := by
  obtain ⟨x_Kind, x_N, x_S, x_Kids, x_Plans⟩ := x
  simp only [TNode.d, TPlan.ds_eq, TNode.ds_eq, TGather.ds_eq, TPlan.Kind, TPlan.N, TPlan.Kids, TPlan.E, TPlan.Keys, TPlan.Aggs, TPlan.Desc, TPlan.Width, TNode.Kind, TNode.N, TNode.S, TNode.Kids, TNode.Plans, TGather.Fn, TGather.E, rep_st, repF_nil, repF_int, repF_bool, repF_str, repF_slm, repF_op, repF_mp, repF_ar]
  constructor
  · rintro ⟨_, rfl, _, rfl, _, rfl, A3, c3, _, rfl, h3, A4, c4, _, rfl, h4, rfl⟩; exact ⟨A3, c3, A4, c4, rfl, h3, h4⟩
  · rintro ⟨A3, c3, A4, c4, rfl, h3, h4⟩; exact ⟨_, rfl, _, rfl, _, rfl, A3, c3, _, rfl, h3, A4, c4, _, rfl, h4, rfl⟩
theorem TGather.inv {G : GH} {x : TGather} {cs : List Value} : Rep G x.d cs ↔ ∃ A1 c1, cs = [.string x.Fn, .slice A1 x.E.length c1] ∧ Sl G A1 c1 5 (x.E.map TNode.d) := by
  obtain ⟨x_Fn, x_E⟩ := x
  simp only [TGather.d, TPlan.ds_eq, TNode.ds_eq, TGather.ds_eq, TPlan.Kind, TPlan.N, TPlan.Kids, TPlan.E, TPlan.Keys, TPlan.Aggs, TPlan.Desc, TPlan.Width, TNode.Kind, TNode.N, TNode.S, TNode.Kids, TNode.Plans, TGather.Fn, TGather.E, rep_st, repF_nil, repF_int, repF_bool, repF_str, repF_slm, repF_op, repF_mp, repF_ar]
  constructor
  · rintro ⟨_, rfl, A1, c1, _, rfl, h1, rfl⟩; exact ⟨A1, c1, rfl, h1⟩
  · rintro ⟨A1, c1, rfl, h1⟩; exact ⟨_, rfl, A1, c1, _, rfl, h1, rfl⟩
def Tlattice_Lattice.d (x : Tlattice_Lattice) : D := .st [.sl 1 (x.names_.map D.str), D.kv false D.str (D.int .i64) x.at_, .sl 1 (x.up_.map (D.int .u32)), .sl 1 (x.down_.map (D.int .u32)), D.ar .i64 256 x.join_, D.ar .i64 256 x.meet_]
theorem Tlattice_Lattice.inv {G : GH} {x : Tlattice_Lattice} {cs : List Value} : Rep G x.d cs ↔ ∃ A0 c0 A1 A2 c2 A3 c3, cs = ([.slice A0 x.names_.length c0, .map A1, .slice A2 x.up_.length c2, .slice A3 x.down_.length c3] ++ (arCells .i64 256 x.join_ ++ (arCells .i64 256 x.meet_ ++ []))) ∧ Sl G A0 c0 1 (x.names_.map D.str) ∧ Mp G A1 false D.str (D.int .i64) x.at_ ∧ Sl G A2 c2 1 (x.up_.map (D.int .u32)) ∧ Sl G A3 c3 1 (x.down_.map (D.int .u32)) := by
  simp only [Tlattice_Lattice.d, rep_st, repF_nil, repF_int, repF_bool, repF_str, repF_slm, repF_op, repF_mp, repF_ar]
  constructor
  · rintro ⟨A0, c0, _, rfl, h0, A1, _, rfl, h1, A2, c2, _, rfl, h2, A3, c3, _, rfl, h3, _, rfl, _, rfl, rfl⟩; exact ⟨A0, c0, A1, A2, c2, A3, c3, rfl, h0, h1, h2, h3⟩
  · rintro ⟨A0, c0, A1, A2, c2, A3, c3, rfl, h0, h1, h2, h3⟩; exact ⟨A0, c0, _, rfl, h0, A1, _, rfl, h1, A2, c2, _, rfl, h2, A3, c3, _, rfl, h3, _, rfl, _, rfl, rfl⟩
def Tschema_Catalog.d (x : Tschema_Catalog) : D := .st [D.op 160 Tlattice_Lattice.d x.lattice_, .sl 6 (x.tables_.map TRelation.d), D.kv false D.str (D.int .i64) x.at_, .sl 2 (x.channels_.map TNamed.d), .sl 2 (x.principals_.map TNamed.d), .int .i64 x.limit_]
theorem Tschema_Catalog.inv {G : GH} {x : Tschema_Catalog} {cs : List Value} : Rep G x.d cs ↔ ∃ A0 A1 c1 A2 A3 c3 A4 c4, cs = [.pointer A0, .slice A1 x.tables_.length c1, .map A2, .slice A3 x.channels_.length c3, .slice A4 x.principals_.length c4, .int .i64 x.limit_] ∧ Pt G A0 160 Tlattice_Lattice.d x.lattice_ ∧ Sl G A1 c1 6 (x.tables_.map TRelation.d) ∧ Mp G A2 false D.str (D.int .i64) x.at_ ∧ Sl G A3 c3 2 (x.channels_.map TNamed.d) ∧ Sl G A4 c4 2 (x.principals_.map TNamed.d) := by
  simp only [Tschema_Catalog.d, rep_st, repF_nil, repF_int, repF_bool, repF_str, repF_slm, repF_op, repF_mp, repF_ar]
  constructor
  · rintro ⟨A0, _, rfl, h0, A1, c1, _, rfl, h1, A2, _, rfl, h2, A3, c3, _, rfl, h3, A4, c4, _, rfl, h4, _, rfl, rfl⟩; exact ⟨A0, A1, c1, A2, A3, c3, A4, c4, rfl, h0, h1, h2, h3, h4⟩
  · rintro ⟨A0, A1, c1, A2, A3, c3, A4, c4, rfl, h0, h1, h2, h3, h4⟩; exact ⟨A0, _, rfl, h0, A1, c1, _, rfl, h1, A2, _, rfl, h2, A3, c3, _, rfl, h3, A4, c4, _, rfl, h4, _, rfl, rfl⟩
def Tlabels_marker.d (x : Tlabels_marker) : D := .st [D.op 160 Tlattice_Lattice.d x.l_, .sl 6 (x.rels_.map TRelation.d), .sl 2 (x.vars_.map TNamed.d)]
theorem Tlabels_marker.inv {G : GH} {x : Tlabels_marker} {cs : List Value} : Rep G x.d cs ↔ ∃ A0 A1 c1 A2 c2, cs = [.pointer A0, .slice A1 x.rels_.length c1, .slice A2 x.vars_.length c2] ∧ Pt G A0 160 Tlattice_Lattice.d x.l_ ∧ Sl G A1 c1 6 (x.rels_.map TRelation.d) ∧ Sl G A2 c2 2 (x.vars_.map TNamed.d) := by
  simp only [Tlabels_marker.d, rep_st, repF_nil, repF_int, repF_bool, repF_str, repF_slm, repF_op, repF_mp, repF_ar]
  constructor
  · rintro ⟨A0, _, rfl, h0, A1, c1, _, rfl, h1, A2, c2, _, rfl, h2, rfl⟩; exact ⟨A0, A1, c1, A2, c2, rfl, h0, h1, h2⟩
  · rintro ⟨A0, A1, c1, A2, c2, rfl, h0, h1, h2⟩; exact ⟨A0, _, rfl, h0, A1, c1, _, rfl, h1, A2, c2, _, rfl, h2, rfl⟩
def Tschema_predicate.d (x : Tschema_predicate) : D := .st [.str x.table_, D.kv false D.str (D.int .i64) x.cols_, D.op 43 TRelation.d x.r_, .sl 1 (x.used_.map (D.int .i64))]
theorem Tschema_predicate.inv {G : GH} {x : Tschema_predicate} {cs : List Value} : Rep G x.d cs ↔ ∃ A1 A2 A3 c3, cs = [.string x.table_, .map A1, .pointer A2, .slice A3 x.used_.length c3] ∧ Mp G A1 false D.str (D.int .i64) x.cols_ ∧ Pt G A2 43 TRelation.d x.r_ ∧ Sl G A3 c3 1 (x.used_.map (D.int .i64)) := by
  simp only [Tschema_predicate.d, rep_st, repF_nil, repF_int, repF_bool, repF_str, repF_slm, repF_op, repF_mp, repF_ar]
  constructor
  · rintro ⟨_, rfl, A1, _, rfl, h1, A2, _, rfl, h2, A3, c3, _, rfl, h3, rfl⟩; exact ⟨A1, A2, A3, c3, rfl, h1, h2, h3⟩
  · rintro ⟨A1, A2, A3, c3, rfl, h1, h2, h3⟩; exact ⟨_, rfl, A1, _, rfl, h1, A2, _, rfl, h2, A3, c3, _, rfl, h3, rfl⟩
def Fk174 (G : GH) (V : Value) (g : TNamed → Option Bool) : Prop := ∀ (x0_ : TNamed) (r_ : Bool), g x0_ = some r_ → ∀ (w_ : World) (H_ : GH) (cs1 : List Value), G.le H_ → Inv w_ H_ [] H_ [] w_ → (Rep H_ x0_.d cs1) → CallsV Tryz.prog V [.agg ⟨cs1⟩] w_ (Ret w_ H_ [] fun G' L' v => L' = [] ∧ v = .bool r_)
theorem Fk174.mono {G G' : GH} {V : Value} {g : TNamed → Option Bool} (l : G.le G') (h : Fk174 G V g) : Fk174 G' V g := by
  intro x0_ r_ hr w_ H_ cs1 hle
  exact h x0_ r_ hr w_ H_ cs1 (l.trans hle)
theorem Fk174.m : type_of% @Fk174.mono := @Fk174.mono
theorem ai_22 : AppI Tryz.prog 22 9 1 := app_of (by kernel_rfl)
theorem ai_33 : AppI Tryz.prog 33 43 6 := app_of (by kernel_rfl)
theorem ai_34 : AppI Tryz.prog 34 56 2 := app_of (by kernel_rfl)
theorem ai_39 : AppI Tryz.prog 39 52 4 := app_of (by kernel_rfl)
theorem ai_40 : AppI Tryz.prog 40 3 1 := app_of (by kernel_rfl)
theorem ai_41 : AppI Tryz.prog 41 145 6 := app_of (by kernel_rfl)
theorem ai_49 : AppI Tryz.prog 49 54 2 := app_of (by kernel_rfl)
theorem ai_80 : AppI Tryz.prog 80 4 1 := app_of (by kernel_rfl)
theorem ai_97 : AppI Tryz.prog 97 80 1 := app_of (by kernel_rfl)
theorem ai_156 : AppI Tryz.prog 156 155 1 := app_of (by kernel_rfl)
theorem mi_104_Leq : ∀ (q : Value) (w : World), (method (Tryz.prog.types.size + Made.depth) 104 q "Leq").run Tryz.prog w = .ok (36, q) w := fun q w => mth_run (by kernel_rfl) q w
theorem cl_32 : Callable Tryz.prog 32 := ⟨_, Tryz.func32, by kernel_rfl, by kernel_rfl⟩
theorem cl_57 : Callable Tryz.prog 57 := ⟨_, Tryz.func57, by kernel_rfl, by kernel_rfl⟩
theorem cl_72 : Callable Tryz.prog 72 := ⟨_, Tryz.func72, by kernel_rfl, by kernel_rfl⟩
theorem cl_74 : Callable Tryz.prog 74 := ⟨_, Tryz.func74, by kernel_rfl, by kernel_rfl⟩
theorem cl_76 : Callable Tryz.prog 76 := ⟨_, Tryz.func76, by kernel_rfl, by kernel_rfl⟩
theorem se_54 : StEq tt Tryz.prog 54 [2, 2] := ⟨by kernel_rfl, by kernel_rfl, by kernel_rfl, by kernel_rfl⟩
end Go.Proofs.YtknhbphhdfknaaaGreatDoor
