/- The functions, as plain Lean: each Go function with the same answers (none: it panics there, or the rounds are used up). Written by mk.py. -/
import Derived.Test.YtlokemkpgnngjaaGreatDoorCxF
set_option linter.unusedVariables false
set_option linter.unusedSimpArgs false
set_option maxRecDepth 100000
namespace Go.Proofs.YtlokemkpgnngjaaGreatDoor
mutual
inductive TNode where
  | mk (Kind : Int) (N : Int) (S : ByteArray) (Kids : List TNode) (Plans : List TPlan)
inductive TPlan where
  | mk (Kind : Int) (N : Int) (Kids : List TPlan) (E : List TNode) (Keys : List Int) (Aggs : List TGather) (Desc : List Bool) (Width : Int)
inductive TGather where
  | mk (Fn : ByteArray) (E : List TNode)
end
def TNode.Kind : TNode → Int | .mk x _ _ _ _ => x
def TNode.N : TNode → Int | .mk _ x _ _ _ => x
def TNode.S : TNode → ByteArray | .mk _ _ x _ _ => x
def TNode.Kids : TNode → List TNode | .mk _ _ _ x _ => x
def TNode.Plans : TNode → List TPlan | .mk _ _ _ _ x => x
def TPlan.Kind : TPlan → Int | .mk x _ _ _ _ _ _ _ => x
def TPlan.N : TPlan → Int | .mk _ x _ _ _ _ _ _ => x
def TPlan.Kids : TPlan → List TPlan | .mk _ _ x _ _ _ _ _ => x
def TPlan.E : TPlan → List TNode | .mk _ _ _ x _ _ _ _ => x
def TPlan.Keys : TPlan → List Int | .mk _ _ _ _ x _ _ _ => x
def TPlan.Aggs : TPlan → List TGather | .mk _ _ _ _ _ x _ _ => x
def TPlan.Desc : TPlan → List Bool | .mk _ _ _ _ _ _ x _ => x
def TPlan.Width : TPlan → Int | .mk _ _ _ _ _ _ _ x => x
def TGather.Fn : TGather → ByteArray | .mk x _ => x
def TGather.E : TGather → List TNode | .mk _ x => x
structure TSheet where
  Rows : Int
  Cols : List Int
  Raise : Int
  Can : Bool
structure TMark where
  Value_ : Int
  Raise : Int
  Can : Bool
structure TField where
  Name : ByteArray
  Type_ : Int
  Null : Bool
  Level : Int
mutual
inductive TQuery where
  | mk (Kind : Int) (Distinct : Bool) (Items : List TItem) (From : List TFrom) (Where : List TExpr) (Group : List TExpr) (Having : List TExpr) (Order : List TKey) (Limit : Int) (Kids : List TQuery)
inductive TExpr where
  | mk (Kind : Int) (N : Int) (S : ByteArray) (T : ByteArray) (Kids : List TExpr) (Q : List TQuery)
inductive TItem where
  | mk (E : TExpr) (Name : ByteArray)
inductive TFrom where
  | mk (Kind : Int) (Table : ByteArray) (Visible : Bool) (As : ByteArray) (Q : List TQuery) (Kids : List TFrom) (On : List TExpr)
inductive TKey where
  | mk (E : TExpr) (Desc : Bool)
end
def TQuery.Kind : TQuery → Int | .mk x _ _ _ _ _ _ _ _ _ => x
def TQuery.Distinct : TQuery → Bool | .mk _ x _ _ _ _ _ _ _ _ => x
def TQuery.Items : TQuery → List TItem | .mk _ _ x _ _ _ _ _ _ _ => x
def TQuery.From : TQuery → List TFrom | .mk _ _ _ x _ _ _ _ _ _ => x
def TQuery.Where : TQuery → List TExpr | .mk _ _ _ _ x _ _ _ _ _ => x
def TQuery.Group : TQuery → List TExpr | .mk _ _ _ _ _ x _ _ _ _ => x
def TQuery.Having : TQuery → List TExpr | .mk _ _ _ _ _ _ x _ _ _ => x
def TQuery.Order : TQuery → List TKey | .mk _ _ _ _ _ _ _ x _ _ => x
def TQuery.Limit : TQuery → Int | .mk _ _ _ _ _ _ _ _ x _ => x
def TQuery.Kids : TQuery → List TQuery | .mk _ _ _ _ _ _ _ _ _ x => x
def TExpr.Kind : TExpr → Int | .mk x _ _ _ _ _ => x
def TExpr.N : TExpr → Int | .mk _ x _ _ _ _ => x
def TExpr.S : TExpr → ByteArray | .mk _ _ x _ _ _ => x
def TExpr.T : TExpr → ByteArray | .mk _ _ _ x _ _ => x
def TExpr.Kids : TExpr → List TExpr | .mk _ _ _ _ x _ => x
def TExpr.Q : TExpr → List TQuery | .mk _ _ _ _ _ x => x
def TItem.E : TItem → TExpr | .mk x _ => x
def TItem.Name : TItem → ByteArray | .mk _ x => x
def TFrom.Kind : TFrom → Int | .mk x _ _ _ _ _ _ => x
def TFrom.Table : TFrom → ByteArray | .mk _ x _ _ _ _ _ => x
def TFrom.Visible : TFrom → Bool | .mk _ _ x _ _ _ _ => x
def TFrom.As : TFrom → ByteArray | .mk _ _ _ x _ _ _ => x
def TFrom.Q : TFrom → List TQuery | .mk _ _ _ _ x _ _ => x
def TFrom.Kids : TFrom → List TFrom | .mk _ _ _ _ _ x _ => x
def TFrom.On : TFrom → List TExpr | .mk _ _ _ _ _ _ x => x
def TKey.E : TKey → TExpr | .mk x _ => x
def TKey.Desc : TKey → Bool | .mk _ x => x
structure TRelation where
  Name : ByteArray
  Rows : Int
  Cols : List TField
  Key : List Int
  Hide : Int
  When : List TExpr
structure TPair where
  Low : ByteArray
  High : ByteArray
structure TCol where
  Name : ByteArray
  Type_ : Int
  Null : Bool
  Level : ByteArray
structure TTable where
  Name : ByteArray
  Rows : ByteArray
  Cols : List TCol
  Key : List ByteArray
  Hide : ByteArray
  When : List TExpr
structure TSchema where
  Levels : List ByteArray
  Edges : List TPair
  Tables : List TTable
  Channels : List TPair
  Principals : List TPair
  Limit : Int
structure TNamed where
  Name : ByteArray
  Level : Int
structure TValue where
  Type_ : Int
  N : Int
  S : ByteArray
structure Tlattice_Lattice where
  names_ : List ByteArray
  at_ : List (ByteArray × Int)
  up_ : List Int
  down_ : List Int
  join_ : List Int
  meet_ : List Int
structure Tlabels_marker where
  l_ : Option Tlattice_Lattice
  rels_ : List TRelation
  vars_ : List TNamed
structure Tschema_Catalog where
  lattice_ : Option Tlattice_Lattice
  tables_ : List TRelation
  at_ : List (ByteArray × Int)
  channels_ : List TNamed
  principals_ : List TNamed
  limit_ : Int
structure Tstore_DB where
  c_ : Option Tschema_Catalog
  rels_ : List TRelation
  rows_ : List (List (List TValue))
structure TPlace where
  T : ByteArray
  Name : ByteArray
  Type_ : Int
structure TBound where
  Name : ByteArray
  Value_ : TValue

def labels_Plan (k:Nat) (b:Option Tschema_Catalog) (c:List TNamed) (d:TPlan):Option (TSheet) :=
  (bif b.isNone then some (TSheet.mk (0:Int) [] (0:Int) false) else none)
def labels_Node (k:Nat) (b:Option Tschema_Catalog) (c:List TNamed) (d:List Int) (e:TNode):Option (TMark) :=
  (bif b.isNone then some (TMark.mk (0:Int) (0:Int) false) else none)
def slices_Clone_int_int (k:Nat) (b:List Int):Option ((List Int)) :=
  ((lim (([]:List Int).length + b.length)).bind fun _=>some (([]:List Int) ++ b))
def slices_Clone_api_Relation_api_Relation (k:Nat) (b:List TRelation):Option ((List TRelation)) :=
  ((lim (([]:List TRelation).length + b.length)).bind fun _=>some (([]:List TRelation) ++ b))
def slices_Clone_api_Field_api_Field (k:Nat) (b:List TField):Option ((List TField)) :=
  ((lim (([]:List TField).length + b.length)).bind fun _=>some (([]:List TField) ++ b))
def slices_Clone_api_Expr_api_Expr (k:Nat) (b:List TExpr):Option ((List TExpr)) :=
  ((lim (([]:List TExpr).length + b.length)).bind fun _=>some (([]:List TExpr) ++ b))
def schema_Catalog_Tables.b0 (k:Nat) (i525:Nat) (l:TRelation) (d:(List TRelation)):Option (Step (List TRelation) (List TRelation)) :=
  ((getO d (i525:Int)).bind fun f=>((slices_Clone_api_Field_api_Field k f.Cols).bind fun g=>((slices_Clone_int_int k f.Key).bind fun h=>((slices_Clone_api_Expr_api_Expr k f.When).bind fun i=>((getO d (i525:Int)).bind fun b=>((getO (setO d (i525:Int) (TRelation.mk b.Name b.Rows g b.Key b.Hide b.When)) (i525:Int)).bind fun c=>((getO (setO (setO d (i525:Int) (TRelation.mk b.Name b.Rows g b.Key b.Hide b.When)) (i525:Int) (TRelation.mk c.Name c.Rows c.Cols h c.Hide c.When)) (i525:Int)).bind fun e=>some (.next (setO (setO (setO d (i525:Int) (TRelation.mk b.Name b.Rows g b.Key b.Hide b.When)) (i525:Int) (TRelation.mk c.Name c.Rows c.Cols h c.Hide c.When)) (i525:Int) (TRelation.mk e.Name e.Rows e.Cols e.Key e.Hide i))))))))))
def schema_Catalog_Tables (k:Nat) (b:Option Tschema_Catalog):Option ((List TRelation)) :=
  (bif b.isNone then some [] else (optE b none fun e=>((slices_Clone_api_Relation_api_Relation k e.tables_).bind fun c=>((forL (schema_Catalog_Tables.b0 k) 0 c c).bind (Lr.k (fun r=>some r) (fun d=>some d))))))
def labels_Column (k:Nat) (f:Option Tschema_Catalog) (b:Int) (c:Int):Option (Int) :=
  ((schema_Catalog_Tables k f).bind fun d=>(((bif decide (b < (0:Int)) then some true else (bif decide ((d.length:Int)≤b) then some true else (bif decide (c < (0:Int)) then some true else ((getO d b).bind fun g=>some (decide ((g.Cols.length:Int)≤c))))))).bind fun e=>(bif e then some (-1:Int) else none)))
def labels_Exists (k:Nat) (d:Option Tschema_Catalog) (b:Int):Option (Int) :=
  (((bif decide (b < (0:Int)) then some true else ((schema_Catalog_Tables k d).bind fun e=>some (decide ((e.length:Int)≤b))))).bind fun c=>(bif c then some (-1:Int) else none))
def law17_alive (k:Nat):Option Bool:=some true
def law17_LabelsNil (k:Nat) (f:TNode) (g:TPlan) (d:Int) (h:Int):Option (Bool) :=
  ((labels_Plan k (none:Option Tschema_Catalog) [] g).bind fun b=>((((labels_Node k (none:Option Tschema_Catalog) [] [] f).bind fun c=>(bif (decide (c.Value_=(0:Int)) && (decide (c.Raise=(0:Int)) && (c.Can == false))) then (bif decide (b.Rows=(0:Int)) then (bif decide ((b.Cols.length:Int)=(0:Int)) then (bif !b.Can then ((labels_Column k (none:Option Tschema_Catalog) d h).bind fun i=>(bif decide (i=(-1:Int)) then ((labels_Exists k (none:Option Tschema_Catalog) d).bind fun l=>(bif decide (l=(-1:Int)) then ((law17_alive kAlive ).bind fun m=>some m) else some false)) else some false)) else some false) else some false) else some false) else some false))).bind fun e=>some e))
def change_relation (k:Nat) (b:Option Tstore_DB) (c:Int):Option (TRelation × Int) :=
  (bif b.isNone then some ((TRelation.mk (⟨#[]⟩:ByteArray) (0:Int) [] [] (0:Int) []),(1:Int)) else none)
def change_Update (k:Nat) (c:Option Tstore_DB) (e:List TBound) (d:Int) (f:List Int) (g:List TNode) (h:List TNode):Option (Int × Int) :=
  ((change_relation k c d).bind fun b=>(bif !decide (b.2=(0:Int)) then some ((0:Int),b.2) else none))
def change_Delete (k:Nat) (c:Option Tstore_DB) (e:List TBound) (d:Int) (f:List TNode):Option (Int × Int) :=
  ((change_relation k c d).bind fun b=>(bif !decide (b.2=(0:Int)) then some ((0:Int),b.2) else none))
def change_Insert (k:Nat) (c:Option Tstore_DB) (e:List TBound) (d:Int) (f:List TNode):Option (Int) :=
  ((change_relation k c d).bind fun b=>(bif !decide (b.2=(0:Int)) then some b.2 else none))
def change_InsertRows (k:Nat) (c:Option Tstore_DB) (e:List TBound) (d:Int) (f:TPlan):Option (Int) :=
  ((change_relation k c d).bind fun b=>(bif !decide (b.2=(0:Int)) then some b.2 else none))
def ref09_One (k:Nat) (b:Int) (c:Int):Option (Int) :=
  (bif decide (b=(0:Int)) then some c else (((bif decide (c=(0:Int)) then some true else some (decide (b=c)))).bind fun d=>(bif d then some b else some (-1:Int))))
def law14_alive (k:Nat):Option Bool:=some true
def law14_ChangeNil (k:Nat) (b:Int) (c:List TNode) (g:TPlan):Option (Bool) :=
  ((change_Update k (none:Option Tstore_DB) [] b [] c []).bind fun d=>((change_Delete k (none:Option Tstore_DB) [] b c).bind fun e=>((((change_Insert k (none:Option Tstore_DB) [] b c).bind fun h=>(bif decide (h=(1:Int)) then ((change_InsertRows k (none:Option Tstore_DB) [] b g).bind fun i=>(bif decide (i=(1:Int)) then (bif decide ((w64 (d.1 + e.1))=(0:Int)) then (bif decide (d.2=(1:Int)) then (bif decide (e.2=(1:Int)) then ((ref09_One k (0:Int) (1:Int)).bind fun l=>(bif decide (l=(1:Int)) then ((law14_alive kAlive ).bind fun m=>some m) else some false)) else some false) else some false) else some false) else some false)) else some false))).bind fun f=>some f)))


end Go.Proofs.YtlokemkpgnngjaaGreatDoor
