/- The functions, as plain Lean: each Go function with the same answers (none: it panics there, or the rounds are used up). Written by mk.py. -/
import Derived.Test.YtknhbphhdfknaaaGreatDoorCxF
set_option linter.unusedVariables false
set_option linter.unusedSimpArgs false
set_option maxRecDepth 100000
namespace Go.Proofs.YtknhbphhdfknaaaGreatDoor
structure TPair where
  Low : ByteArray
  High : ByteArray
mutual
inductive TQuery where
  | mk (Kind : Int) (Distinct : Bool) (Items : List TItem) (From : List TFrom) (Where : List TExpr) (Group : List TExpr) (Having : List TExpr) (Order : List TKey) (Limit : Int) (Kids : List TQuery)
inductive TExpr where
  | mk (Kind : Int) (N : Int) (S : ByteArray) (T : ByteArray) (Kids : List TExpr) (Q : List TQuery)
inductive TItem where
  | mk (E : TExpr) (Name : ByteArray)
inductive TFrom where
  | mk (Kind : Int) (Table : ByteArray) (Visible : Bool) (As : ByteArray) (Q : List TQuery) (Kids : List TFrom) (On : List TExpr)
inductive TKey where
  | mk (E : TExpr) (Desc : Bool)
end
def TQuery.Kind : TQuery → Int | .mk x _ _ _ _ _ _ _ _ _ => x
def TQuery.Distinct : TQuery → Bool | .mk _ x _ _ _ _ _ _ _ _ => x
def TQuery.Items : TQuery → List TItem | .mk _ _ x _ _ _ _ _ _ _ => x
def TQuery.From : TQuery → List TFrom | .mk _ _ _ x _ _ _ _ _ _ => x
def TQuery.Where : TQuery → List TExpr | .mk _ _ _ _ x _ _ _ _ _ => x
def TQuery.Group : TQuery → List TExpr | .mk _ _ _ _ _ x _ _ _ _ => x
def TQuery.Having : TQuery → List TExpr | .mk _ _ _ _ _ _ x _ _ _ => x
def TQuery.Order : TQuery → List TKey | .mk _ _ _ _ _ _ _ x _ _ => x
def TQuery.Limit : TQuery → Int | .mk _ _ _ _ _ _ _ _ x _ => x
def TQuery.Kids : TQuery → List TQuery | .mk _ _ _ _ _ _ _ _ _ x => x
def TExpr.Kind : TExpr → Int | .mk x _ _ _ _ _ => x
def TExpr.N : TExpr → Int | .mk _ x _ _ _ _ => x
def TExpr.S : TExpr → ByteArray | .mk _ _ x _ _ _ => x
def TExpr.T : TExpr → ByteArray | .mk _ _ _ x _ _ => x
def TExpr.Kids : TExpr → List TExpr | .mk _ _ _ _ x _ => x
def TExpr.Q : TExpr → List TQuery | .mk _ _ _ _ _ x => x
def TItem.E : TItem → TExpr | .mk x _ => x
def TItem.Name : TItem → ByteArray | .mk _ x => x
def TFrom.Kind : TFrom → Int | .mk x _ _ _ _ _ _ => x
def TFrom.Table : TFrom → ByteArray | .mk _ x _ _ _ _ _ => x
def TFrom.Visible : TFrom → Bool | .mk _ _ x _ _ _ _ => x
def TFrom.As : TFrom → ByteArray | .mk _ _ _ x _ _ _ => x
def TFrom.Q : TFrom → List TQuery | .mk _ _ _ _ x _ _ => x
def TFrom.Kids : TFrom → List TFrom | .mk _ _ _ _ _ x _ => x
def TFrom.On : TFrom → List TExpr | .mk _ _ _ _ _ _ x => x
def TKey.E : TKey → TExpr | .mk x _ => x
def TKey.Desc : TKey → Bool | .mk _ x => x
structure TCol where
  Name : ByteArray
  Type_ : Int
  Null : Bool
  Level : ByteArray
structure TTable where
  Name : ByteArray
  Rows : ByteArray
  Cols : List TCol
  Key : List ByteArray
  Hide : ByteArray
  When : List TExpr
structure TSchema where
  Levels : List ByteArray
  Edges : List TPair
  Tables : List TTable
  Channels : List TPair
  Principals : List TPair
  Limit : Int
structure TField where
  Name : ByteArray
  Type_ : Int
  Null : Bool
  Level : Int
structure TRelation where
  Name : ByteArray
  Rows : Int
  Cols : List TField
  Key : List Int
  Hide : Int
  When : List TExpr
structure TNamed where
  Name : ByteArray
  Level : Int
structure Tref03_Lattice where
  Names : List ByteArray
  Below : List (List Bool)
structure Tref08_Catalog where
  L : Option Tref03_Lattice
  Tables : List TRelation
  Channels : List TNamed
  Principals : List TNamed
  Limit : Int
structure TGrant where
  Table : ByteArray
  Column : ByteArray
mutual
inductive TPlan where
  | mk (Kind : Int) (N : Int) (Kids : List TPlan) (E : List TNode) (Keys : List Int) (Aggs : List TGather) (Desc : List Bool) (Width : Int)
inductive TNode where
  | mk (Kind : Int) (N : Int) (S : ByteArray) (Kids : List TNode) (Plans : List TPlan)
inductive TGather where
  | mk (Fn : ByteArray) (E : List TNode)
end
def TPlan.Kind : TPlan → Int | .mk x _ _ _ _ _ _ _ => x
def TPlan.N : TPlan → Int | .mk _ x _ _ _ _ _ _ => x
def TPlan.Kids : TPlan → List TPlan | .mk _ _ x _ _ _ _ _ => x
def TPlan.E : TPlan → List TNode | .mk _ _ _ x _ _ _ _ => x
def TPlan.Keys : TPlan → List Int | .mk _ _ _ _ x _ _ _ => x
def TPlan.Aggs : TPlan → List TGather | .mk _ _ _ _ _ x _ _ => x
def TPlan.Desc : TPlan → List Bool | .mk _ _ _ _ _ _ x _ => x
def TPlan.Width : TPlan → Int | .mk _ _ _ _ _ _ _ x => x
def TNode.Kind : TNode → Int | .mk x _ _ _ _ => x
def TNode.N : TNode → Int | .mk _ x _ _ _ => x
def TNode.S : TNode → ByteArray | .mk _ _ x _ _ => x
def TNode.Kids : TNode → List TNode | .mk _ _ _ x _ => x
def TNode.Plans : TNode → List TPlan | .mk _ _ _ _ x => x
def TGather.Fn : TGather → ByteArray | .mk x _ => x
def TGather.E : TGather → List TNode | .mk _ x => x
structure Tlattice_Lattice where
  names_ : List ByteArray
  at_ : List (ByteArray × Int)
  up_ : List Int
  down_ : List Int
  join_ : List Int
  meet_ : List Int
structure Tschema_Catalog where
  lattice_ : Option Tlattice_Lattice
  tables_ : List TRelation
  at_ : List (ByteArray × Int)
  channels_ : List TNamed
  principals_ : List TNamed
  limit_ : Int
structure Tlabels_marker where
  l_ : Option Tlattice_Lattice
  rels_ : List TRelation
  vars_ : List TNamed
structure Tschema_predicate where
  table_ : ByteArray
  cols_ : List (ByteArray × Int)
  r_ : Option TRelation
  used_ : List Int

def law07_weighNames.b0 (k:Nat) (c:List ByteArray) (b:Int × Int):Option (Step Int (Int × Int)) :=
  (((bif decide (b.2 < (c.length:Int)) then some (decide (b.1 < (1000:Int))) else some false)).bind fun d=>(bif d then ((getO c b.2).bind fun e=>(bif decide ((1200:Int) < (e.size:Int)) then some (.ret (1000:Int)) else some (.next (w64 (b.1 + (1:Int)),w64 (b.2 + (1:Int)))))) else some (.brk (b.1,b.2))))
def law07_weighNames (k:Nat) (b:List ByteArray):Option (Int) :=
  ((whileL (law07_weighNames.b0 k b) k ((0:Int),(0:Int))).bind (Lr.k (fun r=>some r) (fun c=>some c.1)))
def law07_weighPairs.b0 (k:Nat) (c:List TPair) (b:Int × Int):Option (Step Int (Int × Int)) :=
  (((bif decide (b.2 < (c.length:Int)) then some (decide (b.1 < (1000:Int))) else some false)).bind fun e=>(bif e then ((getO c b.2).bind fun d=>((law07_weighNames k ([d.Low,d.High])).bind fun f=>some (.next (w64 (b.1 + f),w64 (b.2 + (1:Int)))))) else some (.brk (b.1,b.2))))
def law07_weighPairs (k:Nat) (b:List TPair):Option (Int) :=
  ((whileL (law07_weighPairs.b0 k b) k ((0:Int),(0:Int))).bind (Lr.k (fun r=>some r) (fun c=>some (min c.1 (1000:Int)))))
def law07_weighAll.b0 (k:Nat) (s_law07_weighAll:(List TExpr)→Int→Option Int) (s_law07_Weigh:TExpr→Int→Option Int) (s_law07_WeighQuery:TQuery→Int→Option Int) (s_law07_weighFrom:TFrom→Int→Option Int) (c:List TExpr) (e:Int) (b:Int × Int):Option (Step Int (Int × Int)) :=
  (((bif decide (b.2 < (c.length:Int)) then some (decide (b.1 < (1000:Int))) else some false)).bind fun d=>(bif d then ((getO c b.2).bind fun f=>((s_law07_Weigh f e).bind fun g=>some (.next (w64 (b.1 + g),w64 (b.2 + (1:Int)))))) else some (.brk (b.1,b.2))))
def law07_weighAll.F (k:Nat) (s_law07_weighAll:(List TExpr)→Int→Option Int) (s_law07_Weigh:TExpr→Int→Option Int) (s_law07_WeighQuery:TQuery→Int→Option Int) (s_law07_weighFrom:TFrom→Int→Option Int) (b:List TExpr) (c:Int):Option (Int) :=
  ((whileL (law07_weighAll.b0 k s_law07_weighAll s_law07_Weigh s_law07_WeighQuery s_law07_weighFrom b c) k ((0:Int),(0:Int))).bind (Lr.k (fun r=>some r) (fun d=>some (min d.1 (1000:Int)))))
def law07_Weigh.b0 (k:Nat) (s_law07_weighAll:(List TExpr)→Int→Option Int) (s_law07_Weigh:TExpr→Int→Option Int) (s_law07_WeighQuery:TQuery→Int→Option Int) (s_law07_weighFrom:TFrom→Int→Option Int) (c:TExpr) (e:Int) (b:Int × Int):Option (Step Int (Int × Int)) :=
  (((bif decide (b.2 < (c.Q.length:Int)) then some (decide (b.1 < (1000:Int))) else some false)).bind fun d=>(bif d then ((getO c.Q b.2).bind fun f=>((s_law07_WeighQuery f (w64 (e + (1:Int)))).bind fun g=>some (.next (w64 (b.1 + g),w64 (b.2 + (1:Int)))))) else some (.brk (b.1,b.2))))
def law07_Weigh.b1 (k:Nat) (s_law07_weighAll:(List TExpr)→Int→Option Int) (s_law07_Weigh:TExpr→Int→Option Int) (s_law07_WeighQuery:TQuery→Int→Option Int) (s_law07_weighFrom:TFrom→Int→Option Int) (c:TExpr) (e:Int) (b:Int × Int):Option (Step Int (Int × Int)) :=
  (((bif decide (b.2 < (c.Kids.length:Int)) then some (decide (b.1 < (1000:Int))) else some false)).bind fun d=>(bif d then ((getO c.Kids b.2).bind fun f=>((s_law07_Weigh f (w64 (e + (1:Int)))).bind fun g=>some (.next (w64 (b.1 + g),w64 (b.2 + (1:Int)))))) else some (.brk (b.1,b.2))))
def law07_Weigh.F (k:Nat) (s_law07_weighAll:(List TExpr)→Int→Option Int) (s_law07_Weigh:TExpr→Int→Option Int) (s_law07_WeighQuery:TQuery→Int→Option Int) (s_law07_weighFrom:TFrom→Int→Option Int) (b:TExpr) (c:Int):Option (Int) :=
  (((bif decide ((60:Int) < c) then some true else (bif decide ((1200:Int) < (b.S.size:Int)) then some true else some (decide ((1200:Int) < (b.T.size:Int)))))).bind fun d=>(bif d then some (1000:Int) else ((whileL (law07_Weigh.b1 k s_law07_weighAll s_law07_Weigh s_law07_WeighQuery s_law07_weighFrom b c) k ((1:Int),(0:Int))).bind (Lr.k (fun r=>some r) (fun e=>((whileL (law07_Weigh.b0 k s_law07_weighAll s_law07_Weigh s_law07_WeighQuery s_law07_weighFrom b c) k (e.1,(0:Int))).bind (Lr.k (fun r=>some r) (fun f=>some (min f.1 (1000:Int))))))))))
def law07_WeighQuery.b0 (k:Nat) (s_law07_weighAll:(List TExpr)→Int→Option Int) (s_law07_Weigh:TExpr→Int→Option Int) (s_law07_WeighQuery:TQuery→Int→Option Int) (s_law07_weighFrom:TFrom→Int→Option Int) (c:TQuery) (e:Int) (b:Int × Int):Option (Step Int (Int × Int)) :=
  (((bif decide (b.2 < (c.Kids.length:Int)) then some (decide (b.1 < (1000:Int))) else some false)).bind fun d=>(bif d then ((getO c.Kids b.2).bind fun f=>((s_law07_WeighQuery f (w64 (e + (1:Int)))).bind fun g=>some (.next (w64 (b.1 + g),w64 (b.2 + (1:Int)))))) else some (.brk (b.1,b.2))))
def law07_WeighQuery.b1 (k:Nat) (s_law07_weighAll:(List TExpr)→Int→Option Int) (s_law07_Weigh:TExpr→Int→Option Int) (s_law07_WeighQuery:TQuery→Int→Option Int) (s_law07_weighFrom:TFrom→Int→Option Int) (c:TQuery) (e:Int) (b:Int × Int):Option (Step Int (Int × Int)) :=
  (((bif decide (b.2 < (c.From.length:Int)) then some (decide (b.1 < (1000:Int))) else some false)).bind fun d=>(bif d then ((getO c.From b.2).bind fun f=>((s_law07_weighFrom f (w64 (e + (1:Int)))).bind fun g=>some (.next (w64 (b.1 + g),w64 (b.2 + (1:Int)))))) else some (.brk (b.1,b.2))))
def law07_WeighQuery.b2 (k:Nat) (s_law07_weighAll:(List TExpr)→Int→Option Int) (s_law07_Weigh:TExpr→Int→Option Int) (s_law07_WeighQuery:TQuery→Int→Option Int) (s_law07_weighFrom:TFrom→Int→Option Int) (c:TQuery) (e:Int) (b:Int × Int):Option (Step Int (Int × Int)) :=
  (((bif decide (b.2 < (c.Order.length:Int)) then some (decide (b.1 < (1000:Int))) else some false)).bind fun d=>(bif d then ((getO c.Order b.2).bind fun f=>((s_law07_Weigh f.E (w64 (e + (1:Int)))).bind fun g=>some (.next (w64 (b.1 + g),w64 (b.2 + (1:Int)))))) else some (.brk (b.1,b.2))))
def law07_WeighQuery.b3 (k:Nat) (s_law07_weighAll:(List TExpr)→Int→Option Int) (s_law07_Weigh:TExpr→Int→Option Int) (s_law07_WeighQuery:TQuery→Int→Option Int) (s_law07_weighFrom:TFrom→Int→Option Int) (c:TQuery) (f:Int) (b:Int × Int):Option (Step Int (Int × Int)) :=
  (((bif decide (b.2 < (c.Items.length:Int)) then some (decide (b.1 < (1000:Int))) else some false)).bind fun e=>(bif e then ((getO c.Items b.2).bind fun d=>((s_law07_Weigh d.E (w64 (f + (1:Int)))).bind fun g=>(bif decide ((1200:Int) < (d.Name.size:Int)) then some (.ret (1000:Int)) else some (.next (w64 (b.1 + g),w64 (b.2 + (1:Int))))))) else some (.brk (b.1,b.2))))
def law07_WeighQuery.F (k:Nat) (s_law07_weighAll:(List TExpr)→Int→Option Int) (s_law07_Weigh:TExpr→Int→Option Int) (s_law07_WeighQuery:TQuery→Int→Option Int) (s_law07_weighFrom:TFrom→Int→Option Int) (c:TQuery) (b:Int):Option (Int) :=
  (bif decide ((60:Int) < b) then some (1000:Int) else ((s_law07_weighAll c.Where (w64 (b + (1:Int)))).bind fun h=>((s_law07_weighAll c.Group (w64 (b + (1:Int)))).bind fun i=>((s_law07_weighAll c.Having (w64 (b + (1:Int)))).bind fun l=>((whileL (law07_WeighQuery.b3 k s_law07_weighAll s_law07_Weigh s_law07_WeighQuery s_law07_weighFrom c b) k (w64 ((w64 ((w64 ((1:Int) + h)) + i)) + l),(0:Int))).bind (Lr.k (fun r=>some r) (fun d=>((whileL (law07_WeighQuery.b2 k s_law07_weighAll s_law07_Weigh s_law07_WeighQuery s_law07_weighFrom c b) k (d.1,(0:Int))).bind (Lr.k (fun r=>some r) (fun e=>((whileL (law07_WeighQuery.b1 k s_law07_weighAll s_law07_Weigh s_law07_WeighQuery s_law07_weighFrom c b) k (e.1,(0:Int))).bind (Lr.k (fun r=>some r) (fun f=>((whileL (law07_WeighQuery.b0 k s_law07_weighAll s_law07_Weigh s_law07_WeighQuery s_law07_weighFrom c b) k (f.1,(0:Int))).bind (Lr.k (fun r=>some r) (fun g=>some (min g.1 (1000:Int))))))))))))))))))
def law07_weighFrom.b0 (k:Nat) (s_law07_weighAll:(List TExpr)→Int→Option Int) (s_law07_Weigh:TExpr→Int→Option Int) (s_law07_WeighQuery:TQuery→Int→Option Int) (s_law07_weighFrom:TFrom→Int→Option Int) (c:TFrom) (e:Int) (b:Int × Int):Option (Step Int (Int × Int)) :=
  (((bif decide (b.2 < (c.Kids.length:Int)) then some (decide (b.1 < (1000:Int))) else some false)).bind fun d=>(bif d then ((getO c.Kids b.2).bind fun f=>((s_law07_weighFrom f (w64 (e + (1:Int)))).bind fun g=>some (.next (w64 (b.1 + g),w64 (b.2 + (1:Int)))))) else some (.brk (b.1,b.2))))
def law07_weighFrom.b1 (k:Nat) (s_law07_weighAll:(List TExpr)→Int→Option Int) (s_law07_Weigh:TExpr→Int→Option Int) (s_law07_WeighQuery:TQuery→Int→Option Int) (s_law07_weighFrom:TFrom→Int→Option Int) (c:TFrom) (e:Int) (b:Int × Int):Option (Step Int (Int × Int)) :=
  (((bif decide (b.2 < (c.Q.length:Int)) then some (decide (b.1 < (1000:Int))) else some false)).bind fun d=>(bif d then ((getO c.Q b.2).bind fun f=>((s_law07_WeighQuery f (w64 (e + (1:Int)))).bind fun g=>some (.next (w64 (b.1 + g),w64 (b.2 + (1:Int)))))) else some (.brk (b.1,b.2))))
def law07_weighFrom.F (k:Nat) (s_law07_weighAll:(List TExpr)→Int→Option Int) (s_law07_Weigh:TExpr→Int→Option Int) (s_law07_WeighQuery:TQuery→Int→Option Int) (s_law07_weighFrom:TFrom→Int→Option Int) (b:TFrom) (c:Int):Option (Int) :=
  (((bif decide ((60:Int) < c) then some true else (bif decide ((1200:Int) < (b.Table.size:Int)) then some true else some (decide ((1200:Int) < (b.As.size:Int)))))).bind fun d=>(bif d then some (1000:Int) else ((s_law07_weighAll b.On (w64 (c + (1:Int)))).bind fun g=>((whileL (law07_weighFrom.b1 k s_law07_weighAll s_law07_Weigh s_law07_WeighQuery s_law07_weighFrom b c) k (w64 ((1:Int) + g),(0:Int))).bind (Lr.k (fun r=>some r) (fun e=>((whileL (law07_weighFrom.b0 k s_law07_weighAll s_law07_Weigh s_law07_WeighQuery s_law07_weighFrom b c) k (e.1,(0:Int))).bind (Lr.k (fun r=>some r) (fun f=>some (min f.1 (1000:Int)))))))))))
mutual
def law07_weighAll:Nat→(List TExpr)→Int→Option Int
  | 0=>fun _ _=>none
  | k + 1=>law07_weighAll.F k (law07_weighAll k) (law07_Weigh k) (law07_WeighQuery k) (law07_weighFrom k)
def law07_Weigh:Nat→TExpr→Int→Option Int
  | 0=>fun _ _=>none
  | k + 1=>law07_Weigh.F k (law07_weighAll k) (law07_Weigh k) (law07_WeighQuery k) (law07_weighFrom k)
def law07_WeighQuery:Nat→TQuery→Int→Option Int
  | 0=>fun _ _=>none
  | k + 1=>law07_WeighQuery.F k (law07_weighAll k) (law07_Weigh k) (law07_WeighQuery k) (law07_weighFrom k)
def law07_weighFrom:Nat→TFrom→Int→Option Int
  | 0=>fun _ _=>none
  | k + 1=>law07_weighFrom.F k (law07_weighAll k) (law07_Weigh k) (law07_WeighQuery k) (law07_weighFrom k)
end
def law07_WeighSchema.b1 (k:Nat) (d:TTable) (b:Int × Int):Option (Step Int (Int × Int)) :=
  (((bif decide (b.2 < (d.Cols.length:Int)) then some (decide (b.1 < (1000:Int))) else some false)).bind fun e=>(bif e then ((getO d.Cols b.2).bind fun c=>((law07_weighNames k ([c.Name,c.Level])).bind fun f=>some (.next (w64 (b.1 + f),w64 (b.2 + (1:Int)))))) else some (.brk (b.1,b.2))))
def law07_WeighSchema.b0 (k:Nat) (d:TSchema) (b:Int × Int):Option (Step Int (Int × Int)) :=
  (((bif decide (b.2 < (d.Tables.length:Int)) then some (decide (b.1 < (1000:Int))) else some false)).bind fun e=>(bif e then ((getO d.Tables b.2).bind fun c=>((law07_weighNames k ([c.Name,c.Rows,c.Hide])).bind fun g=>((law07_weighNames k c.Key).bind fun h=>((law07_weighAll k c.When (0:Int)).bind fun i=>((whileL (law07_WeighSchema.b1 k c) k (w64 ((w64 ((w64 ((w64 (b.1 + (1:Int))) + g)) + h)) + i),(0:Int))).bind (Lr.k (fun r=>some (.ret r)) (fun f=>some (.next (f.1,w64 (b.2 + (1:Int))))))))))) else some (.brk (b.1,b.2))))
def law07_WeighSchema (k:Nat) (b:TSchema):Option (Int) :=
  ((law07_weighNames k b.Levels).bind fun d=>((law07_weighPairs k b.Edges).bind fun e=>((law07_weighPairs k b.Channels).bind fun f=>((law07_weighPairs k b.Principals).bind fun g=>((whileL (law07_WeighSchema.b0 k b) k (w64 ((w64 ((w64 (d + e)) + f)) + g),(0:Int))).bind (Lr.k (fun r=>some r) (fun c=>some (min c.1 (1000:Int)))))))))
def law08_Few (k:Nat) (b:TSchema):Option (Bool) :=
  ((((law07_WeighSchema k b).bind fun d=>(bif decide (d≤(300:Int)) then some (decide ((b.Tables.length:Int)≤(30:Int))) else some false))).bind fun c=>some c)
def slices_Clone_string_string (k:Nat) (b:List ByteArray):Option ((List ByteArray)) :=
  ((lim (([]:List ByteArray).length + b.length)).bind fun _=>some (([]:List ByteArray) ++ b))
def lattice_Lattice_named.b0 (k:Nat) (d:Tlattice_Lattice) (i284:Nat) (c:ByteArray) (b:(List (ByteArray × Int)) × (List Int) × (List Int)):Option (Step (Int × Tlattice_Lattice) ((List (ByteArray × Int)) × (List Int) × (List Int))) :=
  (((bif (mget b.1 c).isSome then some true else (bif decide (c=(⟨#[]⟩:ByteArray)) then some true else some (decide ((30:Int) < (c.size:Int)))))).bind fun g=>(bif g then some (.ret ((11:Int),(Tlattice_Lattice.mk d.names_ b.1 b.2.1 b.2.2 d.join_ d.meet_))) else ((shlO .u32 (1:Int) (i284:Int)).bind fun e=>((lim (b.2.1.length + ([e]).length)).bind fun _=>((shlO .u32 (1:Int) (i284:Int)).bind fun f=>((lim (b.2.2.length + ([f]).length)).bind fun _=>some (.next ((mput b.1 c (i284:Int)),(b.2.1 ++ [e]),(b.2.2 ++ [f])))))))))
def lattice_Lattice_named (k:Nat) (b:Tlattice_Lattice):Option (Int × Tlattice_Lattice) :=
  ((forL (lattice_Lattice_named.b0 k b) 0 b.names_ (b.at_,b.up_,b.down_)).bind (Lr.k (fun r=>some r) (fun c=>some ((0:Int),(Tlattice_Lattice.mk b.names_ c.1 c.2.1 c.2.2 b.join_ b.meet_)))))
def lattice_set_has (k:Nat) (b:Int) (c:Int):Option (Bool) :=
  ((shrO .u32 b c).bind fun d=>some (decide ((IntKind.wrap .u32 ((BitVec.ofInt (IntKind.bits .u32) d) &&& (BitVec.ofInt (IntKind.bits .u32) (1:Int))).toNat)=(1:Int))))
def lattice_Lattice_edges.b2 (k:Nat) (i8030:Nat) (i8371:Nat) (h:Int) (b:(List Int) × (List Int)):Option (Step (Int × Tlattice_Lattice) ((List Int) × (List Int))) :=
  ((((getO b.1 (i8030:Int)).bind fun d=>((lattice_set_has k d (i8371:Int)).bind fun e=>(bif e then ((getO b.2 (i8371:Int)).bind fun f=>((shlO .u32 (1:Int) (i8030:Int)).bind fun g=>((getO b.2 (i8371:Int)).bind fun i=>some (b.1,(setO b.2 (i8371:Int) (IntKind.wrap .u32 ((BitVec.ofInt (IntKind.bits .u32) f) ||| (BitVec.ofInt (IntKind.bits .u32) g)).toNat)))))) else some (b.1,b.2))))).bind fun c=>some (.next (c.1,c.2)))
def lattice_Lattice_edges.b1 (k:Nat) (i8030:Nat) (d:Int) (b:(List Int) × (List Int)):Option (Step (Int × Tlattice_Lattice) ((List Int) × (List Int))) :=
  ((forL (lattice_Lattice_edges.b2 k i8030) 0 b.1 (b.1,b.2)).bind (Lr.k (fun r=>some (.ret r)) (fun c=>some (.next (c.1,c.2)))))
def lattice_Lattice_edges.b4 (k:Nat) (d:Int) (i8511:Nat) (i8838:Nat) (h:Int) (b:(List Int)):Option (Step (Int × Tlattice_Lattice) (List Int)) :=
  ((((lattice_set_has k d (i8838:Int)).bind fun e=>(bif e then ((getO b (i8511:Int)).bind fun f=>((getO b (i8838:Int)).bind fun g=>((getO b (i8511:Int)).bind fun i=>some ((setO b (i8511:Int) (IntKind.wrap .u32 ((BitVec.ofInt (IntKind.bits .u32) f) ||| (BitVec.ofInt (IntKind.bits .u32) g)).toNat)))))) else some b))).bind fun c=>some (.next c))
def lattice_Lattice_edges.b3 (k:Nat) (i8511:Nat) (f:Int) (b:(List Int)):Option (Step (Step (Int × Tlattice_Lattice) (List Int)) (List Int)) :=
  ((getO b (i8511:Int)).bind fun d=>((forL (lattice_Lattice_edges.b4 k d i8511) 0 b b).bind (Lr.k (fun r=>some (.ret (.ret r))) (fun c=>((getO c (i8511:Int)).bind fun e=>(bif !decide (e=d) then some (.ret (.next c)) else some (.next c)))))))
def lattice_Lattice_edges.b0 (k:Nat) (b:Tlattice_Lattice) (c:(List Int)):Option (Step (Int × Tlattice_Lattice) (List Int)) :=
  ((forL (lattice_Lattice_edges.b3 k) 0 c c).bind (Lr.k (fun r=>some r) (fun d=>((forL (lattice_Lattice_edges.b1 k) 0 d (d,b.down_)).bind (Lr.k (fun r=>some (.ret r)) (fun e=>some (.ret ((0:Int),(Tlattice_Lattice.mk b.names_ b.at_ e.1 e.2 b.join_ b.meet_)))))))))
def lattice_Lattice_edges.b5 (k:Nat) (b:Tlattice_Lattice) (i8973:Nat) (c:TPair) (d:(List Int)):Option (Step (Int × Tlattice_Lattice) (List Int)) :=
  (((bif !((mget b.at_ c.Low).isSome) then some true else some (!((mget b.at_ c.High).isSome)))).bind fun e=>(bif e then some (.ret ((11:Int),(Tlattice_Lattice.mk b.names_ b.at_ d b.down_ b.join_ b.meet_))) else ((getO d ((mget b.at_ c.Low).getD (0:Int))).bind fun f=>((shlO .u32 (1:Int) ((mget b.at_ c.High).getD (0:Int))).bind fun g=>((getO d ((mget b.at_ c.Low).getD (0:Int))).bind fun h=>some (.next (setO d ((mget b.at_ c.Low).getD (0:Int)) (IntKind.wrap .u32 ((BitVec.ofInt (IntKind.bits .u32) f) ||| (BitVec.ofInt (IntKind.bits .u32) g)).toNat))))))))
def lattice_Lattice_edges (k:Nat) (b:Tlattice_Lattice) (c:List TPair):Option (Int × Tlattice_Lattice) :=
  ((forL (lattice_Lattice_edges.b5 k b) 0 c b.up_).bind (Lr.k (fun r=>some r) (fun d=>((whileL (lattice_Lattice_edges.b0 k b) k d).bind (Lr.k (fun r=>some r) (fun e=>none))))))
def lattice_least.b0 (k:Nat) (b:Int) (i42:Nat) (d:Int) (f:Unit):Option (Step Int Unit) :=
  ((((lattice_set_has k b (i42:Int)).bind fun e=>(bif e then some (decide ((IntKind.wrap .u32 ((BitVec.ofInt (IntKind.bits .u32) b) &&& ~~~(BitVec.ofInt (IntKind.bits .u32) d)).toNat)=(0:Int))) else some false))).bind fun c=>(bif c then some (.ret (i42:Int)) else some (.next ())))
def lattice_least (k:Nat) (b:Int) (c:List Int):Option (Int) :=
  ((forL (lattice_least.b0 k b) 0 c ()).bind (Lr.k (fun r=>some r) (fun d=>some (-1:Int))))
def lattice_Lattice_tables.b1 (k:Nat) (i902:Nat) (b:Tlattice_Lattice) (i1210:Nat) (t:ByteArray) (c:(List Int) × (List Int)):Option (Step (Bool × Tlattice_Lattice) ((List Int) × (List Int))) :=
  (((bif !decide ((i902:Int)=(i1210:Int)) then ((getO b.up_ (i902:Int)).bind fun n=>((lattice_set_has k n (i1210:Int)).bind fun o=>(bif o then ((getO b.up_ (i1210:Int)).bind fun p=>((lattice_set_has k p (i902:Int)).bind fun s=>some s)) else some false))) else some false)).bind fun f=>(bif f then some (.ret (false,(Tlattice_Lattice.mk b.names_ b.at_ b.up_ b.down_ c.1 c.2))) else ((getO b.up_ (i902:Int)).bind fun h=>((getO b.up_ (i1210:Int)).bind fun i=>((lattice_least k (IntKind.wrap .u32 ((BitVec.ofInt (IntKind.bits .u32) h) &&& (BitVec.ofInt (IntKind.bits .u32) i)).toNat) b.up_).bind fun d=>((getO b.down_ (i902:Int)).bind fun l=>((getO b.down_ (i1210:Int)).bind fun m=>((lattice_least k (IntKind.wrap .u32 ((BitVec.ofInt (IntKind.bits .u32) l) &&& (BitVec.ofInt (IntKind.bits .u32) m)).toNat) b.down_).bind fun e=>(((bif decide (d < (0:Int)) then some true else some (decide (e < (0:Int))))).bind fun g=>(bif g then some (.ret (false,(Tlattice_Lattice.mk b.names_ b.at_ b.up_ b.down_ c.1 c.2))) else ((inB 16 (i902:Int)).bind fun _=>((inB 16 (i1210:Int)).bind fun _=>((inB 16 (i902:Int)).bind fun _=>((inB 16 (i1210:Int)).bind fun _=>some (.next ((setA c.1 ((i902:Int).toNat * 16 + (i1210:Int).toNat * 1) d),(setA c.2 ((i902:Int).toNat * 16 + (i1210:Int).toNat * 1) e)))))))))))))))))
def lattice_Lattice_tables.b0 (k:Nat) (b:Tlattice_Lattice) (i902:Nat) (e:ByteArray) (d:(List Int) × (List Int)):Option (Step (Bool × Tlattice_Lattice) ((List Int) × (List Int))) :=
  ((forL (lattice_Lattice_tables.b1 k i902 b) 0 b.names_ (d.1,d.2)).bind (Lr.k (fun r=>some (.ret r)) (fun c=>some (.next (c.1,c.2)))))
def lattice_Lattice_tables (k:Nat) (b:Tlattice_Lattice):Option (Bool × Tlattice_Lattice) :=
  ((forL (lattice_Lattice_tables.b0 k b) 0 b.names_ (b.join_,b.meet_)).bind (Lr.k (fun r=>some r) (fun c=>some (decide ((0:Int) < (b.names_.length:Int)),(Tlattice_Lattice.mk b.names_ b.at_ b.up_ b.down_ c.1 c.2)))))
def lattice_New (k:Nat) (f:List ByteArray) (g:List TPair):Option ((Option Tlattice_Lattice) × Int) :=
  (((bif decide ((16:Int) < (f.length:Int)) then some true else some (decide ((64:Int) < (g.length:Int))))).bind fun h=>(bif h then some ((none:Option Tlattice_Lattice),(8:Int)) else ((slices_Clone_string_string k f).bind fun d=>((lattice_Lattice_named k (Tlattice_Lattice.mk d ([]:List (ByteArray × Int)) ([]:List Int) ([]:List Int) ([]:List Int) ([]:List Int))).bind fun b=>(bif !decide (b.1=(0:Int)) then some ((none:Option Tlattice_Lattice),b.1) else ((lattice_Lattice_edges k (Tlattice_Lattice.mk d b.2.at_ b.2.up_ b.2.down_ ([]:List Int) ([]:List Int)) g).bind fun c=>(bif !decide (c.1=(0:Int)) then some ((none:Option Tlattice_Lattice),c.1) else ((lattice_Lattice_tables k (Tlattice_Lattice.mk d b.2.at_ c.2.up_ c.2.down_ ([]:List Int) ([]:List Int))).bind fun e=>(bif !e.1 then some ((none:Option Tlattice_Lattice),(12:Int)) else some ((some (Tlattice_Lattice.mk d b.2.at_ c.2.up_ c.2.down_ e.2.join_ e.2.meet_)),(0:Int)))))))))))
def schema_typed.b0 (k:Nat) (i48:Nat) (b:TCol) (d:Unit):Option (Step Int Unit) :=
  (((bif decide (b.Type_ < (1:Int)) then some true else some (decide ((3:Int) < b.Type_)))).bind fun c=>(bif c then some (.ret (3:Int)) else some (.next ())))
def schema_typed (k:Nat) (b:TTable):Option (Int) :=
  ((forL (schema_typed.b0 k) 0 b.Cols ()).bind (Lr.k (fun r=>some r) (fun c=>some (0:Int))))
def schema_Catalog_table_1 (k:Nat) (b:Option TTable):Option (Int) :=
  (optE b none fun c=>((schema_typed k c).bind fun d=>some d))
def lattice_Lattice_Find (k:Nat) (b:Option Tlattice_Lattice) (c:ByteArray):Option (Int × Bool) :=
  (bif b.isNone then some ((0:Int),false) else (optE b none fun d=>some (((mget d.at_ c).getD (0:Int)),(mget d.at_ c).isSome)))
def schema_Catalog_levels.b0 (k:Nat) (e:Tschema_Catalog) (b:TRelation) (h:Int × Bool) (i137:Nat) (g:TCol) (c:(List TField)):Option (Step (Int × Tschema_Catalog × TRelation) (List TField)) :=
  ((lattice_Lattice_Find k e.lattice_ g.Level).bind fun f=>(bif !f.2 then some (.ret ((11:Int),e,(TRelation.mk b.Name h.1 c b.Key b.Hide b.When))) else ((getO c (i137:Int)).bind fun d=>some (.next (setO c (i137:Int) (TField.mk d.Name d.Type_ d.Null f.1))))))
def schema_Catalog_levels (k:Nat) (c:Tschema_Catalog) (e:TTable) (b:TRelation):Option (Int × Tschema_Catalog × TRelation) :=
  ((lattice_Lattice_Find k c.lattice_ e.Rows).bind fun d=>(bif !d.2 then some ((11:Int),c,b) else ((forL (schema_Catalog_levels.b0 k c b d) 0 e.Cols b.Cols).bind (Lr.k (fun r=>some r) (fun f=>some ((0:Int),c,(TRelation.mk b.Name d.1 f b.Key b.Hide b.When)))))))
def lattice_Lattice_is (k:Nat) (b:Option Tlattice_Lattice) (c:Int):Option (Bool) :=
  (((bif !b.isNone then (bif decide ((0:Int)≤c) then (optE b none fun e=>some (decide (c < (e.names_.length:Int)))) else some false) else some false)).bind fun d=>some d)
def lattice_Lattice_Leq (k:Nat) (b:Option Tlattice_Lattice) (c:Int) (d:Int):Option (Bool) :=
  ((((lattice_Lattice_is k b c).bind fun f=>(bif f then ((lattice_Lattice_is k b d).bind fun g=>(bif g then (optE b none fun h=>((getO h.up_ c).bind fun i=>((lattice_set_has k i d).bind fun l=>some l))) else some false)) else some false))).bind fun e=>some e)
def slices_Index_int_int.b0 (k:Nat) (b:Int) (i26:Nat) (c:Int) (d:Unit):Option (Step Int Unit) :=
  (bif decide (b=c) then some (.ret (i26:Int)) else some (.next ()))
def slices_Index_int_int (k:Nat) (b:List Int) (c:Int):Option (Int) :=
  ((forL (slices_Index_int_int.b0 k c) 0 b ()).bind (Lr.k (fun r=>some r) (fun d=>some (-1:Int))))
def slices_Contains_int_int (k:Nat) (b:List Int) (c:Int):Option (Bool) :=
  ((slices_Index_int_int k b c).bind fun d=>some (decide ((0:Int)≤d)))
def schema_Catalog_key.b0 (k:Nat) (b:TRelation) (d:Tschema_Catalog) (i277:Nat) (h:Int) (c:(List Int)):Option (Step (Int × Tschema_Catalog × TRelation) (List Int)) :=
  ((getO c (i277:Int)).bind fun e=>((getO b.Cols e).bind fun f=>((lattice_Lattice_Leq k d.lattice_ f.Level b.Rows).bind fun g=>(bif !g then some (.ret ((15:Int),d,(TRelation.mk b.Name b.Rows b.Cols c b.Hide b.When))) else some (.next c)))))
def schema_Catalog_key.b1 (k:Nat) (c:List (ByteArray × Int)) (g:Tschema_Catalog) (b:TRelation) (i313:Nat) (e:ByteArray) (d:(List Int)):Option (Step (Int × Tschema_Catalog × TRelation) (List Int)) :=
  (((bif !((mget c e).isSome) then some true else ((slices_Contains_int_int k d ((mget c e).getD (0:Int))).bind fun h=>some h))).bind fun f=>(bif f then some (.ret ((11:Int),g,(TRelation.mk b.Name b.Rows b.Cols d b.Hide b.When))) else ((lim (d.length + ([((mget c e).getD (0:Int))]).length)).bind fun _=>some (.next (d ++ [((mget c e).getD (0:Int))])))))
def schema_Catalog_key (k:Nat) (c:Tschema_Catalog) (e:TTable) (b:TRelation) (f:List (ByteArray × Int)):Option (Int × Tschema_Catalog × TRelation) :=
  ((forL (schema_Catalog_key.b1 k f c b) 0 e.Key b.Key).bind (Lr.k (fun r=>some r) (fun d=>((forL (schema_Catalog_key.b0 k b c) 0 d d).bind (Lr.k (fun r=>some r) (fun g=>some ((0:Int),c,(TRelation.mk b.Name b.Rows b.Cols g b.Hide b.When))))))))
def slices_Clone_api_Expr_api_Expr (k:Nat) (b:List TExpr):Option ((List TExpr)) :=
  ((lim (([]:List TExpr).length + b.length)).bind fun _=>some (([]:List TExpr) ++ b))
def schema_total.j0 (k:Nat) (b:Unit):Option (Bool) :=
  some false
def schema_total.j1 (k:Nat) (b:Unit):Option (Bool) :=
  some true
def schema_total (k:Nat) (b:ByteArray):Option (Bool) :=
  (((bif decide (b=(⟨#[111,114]⟩:ByteArray)) then some (decide (b=(⟨#[111,114]⟩:ByteArray))) else (bif decide (b=(⟨#[97,110,100]⟩:ByteArray)) then some (decide (b=(⟨#[97,110,100]⟩:ByteArray))) else (bif decide (b=(⟨#[61]⟩:ByteArray)) then some (decide (b=(⟨#[61]⟩:ByteArray))) else some (decide (b=(⟨#[60,62]⟩:ByteArray))))))).bind fun c=>(bif c then schema_total.j1 k () else (((bif decide (b=(⟨#[60]⟩:ByteArray)) then some (decide (b=(⟨#[60]⟩:ByteArray))) else (bif decide (b=(⟨#[60,61]⟩:ByteArray)) then some (decide (b=(⟨#[60,61]⟩:ByteArray))) else (bif decide (b=(⟨#[62]⟩:ByteArray)) then some (decide (b=(⟨#[62]⟩:ByteArray))) else some (decide (b=(⟨#[62,61]⟩:ByteArray))))))).bind fun d=>(bif d then schema_total.j1 k () else schema_total.j0 k ()))))
def schema_predicate_shape.b0 (k:Nat) (s_schema_predicate_shape:Tschema_predicate→TExpr→Int→Option (Bool × Tschema_predicate)) (b:Tschema_predicate) (d:Int) (i314:Nat) (f:TExpr) (e:(List Int)):Option (Step (Bool × Tschema_predicate) (List Int)) :=
  ((s_schema_predicate_shape (Tschema_predicate.mk b.table_ b.cols_ b.r_ e) f (w64 (d + (1:Int)))).bind fun c=>(bif !c.1 then some (.ret (false,(Tschema_predicate.mk b.table_ b.cols_ b.r_ c.2.used_))) else some (.next c.2.used_)))
def schema_predicate_shape.j1 (k:Nat) (s_schema_predicate_shape:Tschema_predicate→TExpr→Int→Option (Bool × Tschema_predicate)) (d:TExpr) (b:Tschema_predicate) (e:Int) (c:(List Int) × Int):Option (Bool × Tschema_predicate) :=
  (bif !decide ((d.Kids.length:Int)=c.2) then some (false,(Tschema_predicate.mk b.table_ b.cols_ b.r_ c.1)) else ((forL (schema_predicate_shape.b0 k s_schema_predicate_shape b e) 0 d.Kids c.1).bind (Lr.k (fun r=>some r) (fun f=>some (true,(Tschema_predicate.mk b.table_ b.cols_ b.r_ f))))))
def schema_predicate_shape.j2 (k:Nat) (s_schema_predicate_shape:Tschema_predicate→TExpr→Int→Option (Bool × Tschema_predicate)) (d:TExpr) (b:Tschema_predicate) (e:Int) (c:Int):Option (Bool × Tschema_predicate) :=
  schema_predicate_shape.j1 k s_schema_predicate_shape d b e (b.used_,w64 (c + (1:Int)))
def schema_predicate_shape.F (k:Nat) (s_schema_predicate_shape:Tschema_predicate→TExpr→Int→Option (Bool × Tschema_predicate)) (c:Tschema_predicate) (b:TExpr) (d:Int):Option (Bool × Tschema_predicate) :=
  (((bif decide ((40:Int) < d) then some true else some (decide ((0:Int) < (b.Q.length:Int))))).bind fun e=>(bif e then some (false,c) else (bif decide (b.Kind=(2:Int)) then (((bif decide (b.N < (0:Int)) then some true else some (decide ((1:Int) < b.N)))).bind fun f=>(bif f then some (false,c) else schema_predicate_shape.j1 k s_schema_predicate_shape b c d (c.used_,(0:Int)))) else (bif decide (b.Kind=(4:Int)) then (bif decide ((1000:Int) < (b.S.size:Int)) then some (false,c) else schema_predicate_shape.j1 k s_schema_predicate_shape b c d (c.used_,(0:Int))) else (((bif decide (b.Kind=(1:Int)) then some (decide (b.Kind=(1:Int))) else some (decide (b.Kind=(3:Int))))).bind fun g=>(bif g then schema_predicate_shape.j1 k s_schema_predicate_shape b c d (c.used_,(0:Int)) else (bif decide (b.Kind=(5:Int)) then (((bif !((mget c.cols_ b.S).isSome) then some true else (bif !decide (b.T=(⟨#[]⟩:ByteArray)) then some (!decide (b.T=c.table_)) else some false))).bind fun h=>(bif h then some (false,c) else ((lim (c.used_.length + ([((mget c.cols_ b.S).getD (0:Int))]).length)).bind fun _=>schema_predicate_shape.j1 k s_schema_predicate_shape b c d ((c.used_ ++ [((mget c.cols_ b.S).getD (0:Int))]),(0:Int))))) else (bif decide (b.Kind=(11:Int)) then schema_predicate_shape.j1 k s_schema_predicate_shape b c d (c.used_,(3:Int)) else (bif decide (b.Kind=(10:Int)) then ((schema_total k b.S).bind fun l=>(bif !l then some (false,c) else schema_predicate_shape.j2 k s_schema_predicate_shape b c d (w64 ((0:Int) + (1:Int))))) else (((bif decide (b.Kind=(8:Int)) then some (decide (b.Kind=(8:Int))) else some (decide (b.Kind=(9:Int))))).bind fun i=>(bif i then schema_predicate_shape.j2 k s_schema_predicate_shape b c d ((0:Int)) else some (false,c))))))))))))
def schema_predicate_shape:Nat→Tschema_predicate→TExpr→Int→Option (Bool × Tschema_predicate)
  | 0=>fun _ _ _=>none
  | k + 1=>schema_predicate_shape.F k (schema_predicate_shape k)
def schema_logical (k:Nat) (b:Int):Option (Bool) :=
  (((bif decide (b=(1:Int)) then some true else some (decide (b=(0:Int))))).bind fun c=>some c)
def schema_one (k:Nat) (b:Int) (c:Int):Option (Int) :=
  (((bif decide (b=(-1:Int)) then some true else some (decide (c=(-1:Int))))).bind fun e=>(bif e then some (-1:Int) else (bif decide (b=(0:Int)) then some c else (((bif decide (c=(0:Int)) then some true else some (decide (b=c)))).bind fun d=>(bif d then some b else some (-1:Int))))))
def schema_predicate_typeOf.F (k:Nat) (s_schema_predicate_typeOf:(Option Tschema_predicate)→TExpr→Option Int) (s_schema_predicate_typeOf_1:Int→(Option (Option Tschema_predicate))→(Option TExpr)→Option Int) (c:Option Tschema_predicate) (b:TExpr):Option (Int) :=
  (bif decide (b.Kind=(1:Int)) then some (0:Int) else (bif decide (b.Kind=(2:Int)) then some (1:Int) else (bif decide (b.Kind=(3:Int)) then some (2:Int) else (bif decide (b.Kind=(4:Int)) then some (3:Int) else (bif decide (b.Kind=(5:Int)) then (optE c none fun f=>(optE f.r_ none fun t=>((getO t.Cols ((mget f.cols_ b.S).getD (0:Int))).bind fun u=>some u.Type_))) else (bif decide (b.Kind=(8:Int)) then ((s_schema_predicate_typeOf_1 (0:Int) (some c) (some b)).bind fun v=>((schema_logical k v).bind fun x=>(bif !x then some (-1:Int) else some (1:Int)))) else (bif decide (b.Kind=(9:Int)) then ((s_schema_predicate_typeOf_1 (0:Int) (some c) (some b)).bind fun y=>(bif decide (y=(-1:Int)) then some (-1:Int) else some (1:Int))) else (bif decide (b.Kind=(11:Int)) then ((s_schema_predicate_typeOf_1 (0:Int) (some c) (some b)).bind fun z=>((schema_logical k z).bind fun i=>(bif !i then some (-1:Int) else ((s_schema_predicate_typeOf_1 (1:Int) (some c) (some b)).bind fun l=>((s_schema_predicate_typeOf_1 (2:Int) (some c) (some b)).bind fun m=>((schema_one k l m).bind fun n=>some n)))))) else ((s_schema_predicate_typeOf_1 (0:Int) (some c) (some b)).bind fun d=>((s_schema_predicate_typeOf_1 (1:Int) (some c) (some b)).bind fun e=>(((bif decide (b.S=(⟨#[111,114]⟩:ByteArray)) then some true else some (decide (b.S=(⟨#[97,110,100]⟩:ByteArray))))).bind fun g=>(bif g then ((((schema_logical k d).bind fun o=>(bif !o then some true else ((schema_logical k e).bind fun p=>some (!p))))).bind fun h=>(bif h then some (-1:Int) else some (1:Int))) else ((schema_one k d e).bind fun s=>(bif decide (s=(-1:Int)) then some (-1:Int) else some (1:Int)))))))))))))))
def schema_predicate_typeOf_1.F (k:Nat) (s_schema_predicate_typeOf:(Option Tschema_predicate)→TExpr→Option Int) (s_schema_predicate_typeOf_1:Int→(Option (Option Tschema_predicate))→(Option TExpr)→Option Int) (b:Int) (c:Option (Option Tschema_predicate)) (d:Option TExpr):Option (Int) :=
  (optE c none fun e=>(optE d none fun f=>((getO f.Kids b).bind fun g=>((s_schema_predicate_typeOf e g).bind fun h=>some h))))
mutual
def schema_predicate_typeOf:Nat→(Option Tschema_predicate)→TExpr→Option Int
  | 0=>fun _ _=>none
  | k + 1=>schema_predicate_typeOf.F k (schema_predicate_typeOf k) (schema_predicate_typeOf_1 k)
def schema_predicate_typeOf_1:Nat→Int→(Option (Option Tschema_predicate))→(Option TExpr)→Option Int
  | 0=>fun _ _ _=>none
  | k + 1=>schema_predicate_typeOf_1.F k (schema_predicate_typeOf k) (schema_predicate_typeOf_1 k)
end
def schema_Catalog_hide.b0 (k:Nat) (b:TRelation) (c:Tschema_Catalog) (i256:Nat) (h:Int) (d:(List Int)):Option (Step (Int × Tschema_Catalog × TRelation) (List Int)) :=
  ((getO d (i256:Int)).bind fun e=>((getO b.Cols e).bind fun f=>((lattice_Lattice_Leq k c.lattice_ f.Level b.Rows).bind fun g=>(bif !g then some (.ret ((15:Int),c,b)) else some (.next d)))))
def schema_Catalog_hide (k:Nat) (c:Tschema_Catalog) (d:TTable) (b:TRelation) (g:List (ByteArray × Int)):Option (Int × Tschema_Catalog × TRelation) :=
  (((bif decide (d.Hide=(⟨#[]⟩:ByteArray)) then some (decide ((d.When.length:Int)=(0:Int))) else some false)).bind fun m=>(bif m then some ((0:Int),c,b) else ((lattice_Lattice_Find k c.lattice_ d.Hide).bind fun f=>(bif !f.2 then some ((11:Int),c,b) else ((lattice_Lattice_Leq k c.lattice_ b.Rows f.1).bind fun o=>(bif !o then some ((15:Int),c,b) else (bif !decide ((d.When.length:Int)=(1:Int)) then some ((18:Int),c,b) else ((getO d.When (0:Int)).bind fun i=>((schema_predicate_shape k (Tschema_predicate.mk d.Name g (some b) ([]:List Int)) i (1:Int)).bind fun e=>(bif !e.1 then some ((18:Int),c,b) else ((schema_predicate_typeOf k (some (Tschema_predicate.mk d.Name g (some b) e.2.used_)) i).bind fun h=>(((bif !decide (h=(1:Int)) then some (!decide (h=(0:Int))) else some false)).bind fun l=>(bif l then some ((3:Int),c,b) else ((forL (schema_Catalog_hide.b0 k b c) 0 e.2.used_ e.2.used_).bind (Lr.k (fun r=>some r) (fun p=>((slices_Clone_api_Expr_api_Expr k d.When).bind fun n=>some ((0:Int),c,(TRelation.mk b.Name b.Rows b.Cols b.Key f.1 n)))))))))))))))))))
def schema_Catalog_table.b0 (k:Nat) (e:Tschema_Catalog) (i411:Nat) (b:TCol) (c:(List TField) × (List (ByteArray × Int))):Option (Step (Int × Tschema_Catalog) ((List TField) × (List (ByteArray × Int)))) :=
  (((bif (mget c.2 b.Name).isSome then some true else some (decide (b.Name=(⟨#[]⟩:ByteArray))))).bind fun d=>(bif d then some (.ret ((11:Int),e)) else ((lim (c.1.length + ([(TField.mk b.Name b.Type_ b.Null (0:Int))]).length)).bind fun _=>some (.next ((c.1 ++ [(TField.mk b.Name b.Type_ b.Null (0:Int))]),(mput c.2 b.Name (i411:Int)))))))
def schema_Catalog_table (k:Nat) (b:Tschema_Catalog) (c:TTable):Option (Int × Tschema_Catalog) :=
  (((bif decide ((c.Cols.length:Int)=(0:Int)) then some true else some (decide ((40:Int) < (c.Cols.length:Int))))).bind fun i=>(bif i then some ((8:Int),b) else (((bif (mget b.at_ c.Name).isSome then some true else some (decide (c.Name=(⟨#[]⟩:ByteArray))))).bind fun l=>(bif l then some ((11:Int),b) else ((forL (schema_Catalog_table.b0 k b) 0 c.Cols (([]:List TField),([]:List (ByteArray × Int)))).bind (Lr.k (fun r=>some r) (fun g=>((schema_Catalog_table_1 k (some c)).bind fun h=>(bif !decide (h=(0:Int)) then some (h,b) else ((schema_Catalog_levels k b c (TRelation.mk c.Name (0:Int) g.1 [] (-1:Int) [])).bind fun d=>(bif !decide (d.1=(0:Int)) then some (d.1,b) else ((schema_Catalog_key k b c (TRelation.mk c.Name d.2.2.Rows d.2.2.Cols ([]:List Int) (-1:Int) []) g.2).bind fun f=>(bif !decide (f.1=(0:Int)) then some (f.1,b) else ((schema_Catalog_hide k b c (TRelation.mk c.Name d.2.2.Rows d.2.2.Cols f.2.2.Key (-1:Int) []) g.2).bind fun e=>(bif !decide (e.1=(0:Int)) then some (e.1,b) else ((lim (b.tables_.length + ([(TRelation.mk c.Name d.2.2.Rows d.2.2.Cols f.2.2.Key e.2.2.Hide e.2.2.When)]).length)).bind fun _=>some ((0:Int),(Tschema_Catalog.mk b.lattice_ (b.tables_ ++ [(TRelation.mk c.Name d.2.2.Rows d.2.2.Cols f.2.2.Key e.2.2.Hide e.2.2.When)]) (mput b.at_ c.Name (b.tables_.length:Int)) b.channels_ b.principals_ b.limit_))))))))))))))))))
def slices_IndexFunc_api_Named_api_Named.b0 (k:Nat) (b:TNamed→Option Bool) (i31:Nat) (c:TNamed) (e:Unit):Option (Step Int Unit) :=
  ((b c).bind fun d=>(bif d then some (.ret (i31:Int)) else some (.next ())))
def slices_IndexFunc_api_Named_api_Named (k:Nat) (b:List TNamed) (c:TNamed→Option Bool):Option (Int) :=
  ((forL (slices_IndexFunc_api_Named_api_Named.b0 k c) 0 b ()).bind (Lr.k (fun r=>some r) (fun d=>some (-1:Int))))
def slices_ContainsFunc_api_Named_api_Named (k:Nat) (b:List TNamed) (c:TNamed→Option Bool):Option (Bool) :=
  ((slices_IndexFunc_api_Named_api_Named k b c).bind fun d=>some (decide ((0:Int)≤d)))
def schema_Catalog_named_1 (k:Nat) (b:TNamed) (c:Option TPair):Option (Bool) :=
  (optE c none fun d=>some (decide (b.Name=d.Low)))
def schema_Catalog_named.b0 (k:Nat) (e:Tschema_Catalog) (i228:Nat) (b:TPair) (c:(List TNamed)):Option (Step ((List TNamed) × Int × Int × Tschema_Catalog) (List TNamed)) :=
  ((lattice_Lattice_Find k e.lattice_ b.High).bind fun d=>(((bif !d.2 then some true else (bif decide (b.Low=(⟨#[]⟩:ByteArray)) then some true else ((slices_ContainsFunc_api_Named_api_Named k c (fun h=>schema_Catalog_named_1 k h (some b))).bind fun g=>some g)))).bind fun f=>(bif f then some (.ret ([],w64 ((i228:Int) + (1:Int)),(11:Int),e)) else ((lim (c.length + ([(TNamed.mk b.Low d.1)]).length)).bind fun _=>some (.next (c ++ [(TNamed.mk b.Low d.1)]))))))
def schema_Catalog_named (k:Nat) (b:Tschema_Catalog) (c:List TPair):Option ((List TNamed) × Int × Int × Tschema_Catalog) :=
  ((forL (schema_Catalog_named.b0 k b) 0 c ([]:List TNamed)).bind (Lr.k (fun r=>some r) (fun d=>some (d,(0:Int),(0:Int),b))))
def schema_New.b0 (k:Nat) (f:(Option Tlattice_Lattice) × Int) (d:Int) (i341:Nat) (e:TTable) (c:(List TRelation) × (List (ByteArray × Int))):Option (Step ((Option Tschema_Catalog) × Int × Int) ((List TRelation) × (List (ByteArray × Int)))) :=
  ((schema_Catalog_table k (Tschema_Catalog.mk f.1 c.1 c.2 [] [] d) e).bind fun b=>(bif !decide (b.1=(0:Int)) then some (.ret ((none:Option Tschema_Catalog),w64 ((i341:Int) + (1:Int)),b.1)) else some (.next (b.2.tables_,b.2.at_))))
def schema_New (k:Nat) (b:TSchema):Option ((Option Tschema_Catalog) × Int × Int) :=
  ((lattice_New k b.Levels b.Edges).bind fun d=>(bif !decide (d.2=(0:Int)) then some ((none:Option Tschema_Catalog),(0:Int),d.2) else (((bif decide ((20:Int) < (max (max (b.Tables.length:Int) (b.Channels.length:Int)) (b.Principals.length:Int))) then some true else (bif decide (b.Limit < (0:Int)) then some true else some (decide ((100:Int) < b.Limit))))).bind fun h=>(bif h then some ((none:Option Tschema_Catalog),(0:Int),(8:Int)) else (((bif decide (b.Limit=(0:Int)) then some ((100:Int)) else some b.Limit)).bind fun f=>((forL (schema_New.b0 k d f) 0 b.Tables (([]:List TRelation),([]:List (ByteArray × Int)))).bind (Lr.k (fun r=>some r) (fun c=>((schema_Catalog_named k (Tschema_Catalog.mk d.1 c.1 c.2 [] [] f) b.Channels).bind fun e=>(bif !decide (e.2.2.1=(0:Int)) then some ((none:Option Tschema_Catalog),e.2.1,e.2.2.1) else ((schema_Catalog_named k (Tschema_Catalog.mk d.1 c.1 c.2 e.1 [] f) b.Principals).bind fun g=>(bif !decide (g.2.2.1=(0:Int)) then some ((none:Option Tschema_Catalog),g.2.1,g.2.2.1) else some ((some (Tschema_Catalog.mk d.1 c.1 c.2 e.1 g.1 f)),(0:Int),(0:Int))))))))))))))
def ref03_Lattice_Is (k:Nat) (d:Option Tref03_Lattice) (b:Int):Option (Bool) :=
  (((bif decide ((0:Int)≤b) then (optE d none fun e=>some (decide (b < (e.Names.length:Int)))) else some false)).bind fun c=>some c)
def ref03_Lattice_Leq (k:Nat) (b:Option Tref03_Lattice) (c:Int) (d:Int):Option (Bool) :=
  ((((ref03_Lattice_Is k b c).bind fun f=>(bif f then ((ref03_Lattice_Is k b d).bind fun g=>(bif g then (optE b none fun h=>((getO h.Below c).bind fun i=>((getO i d).bind fun l=>some l))) else some false)) else some false))).bind fun e=>some e)
def ref03_Lattice_Join.j1 (k:Nat) (b:Unit):Option (Step Int Unit) :=
  some (.next ())
def ref03_Lattice_Join.b2 (k:Nat) (b:Option Tref03_Lattice) (e:Int) (f:Int) (i633:Nat) (i1144:Nat) (m:ByteArray) (g:Bool):Option (Step Int Bool) :=
  ((((((ref03_Lattice_Leq k b e (i1144:Int)).bind fun h=>(bif h then ((ref03_Lattice_Leq k b f (i1144:Int)).bind fun i=>(bif i then ((ref03_Lattice_Leq k b (i633:Int) (i1144:Int)).bind fun l=>some (!l)) else some false)) else some false))).bind fun d=>(bif d then some false else some g))).bind fun c=>some (.next c))
def ref03_Lattice_Join.b0 (k:Nat) (b:Option Tref03_Lattice) (c:Int) (d:Int) (i:Tref03_Lattice) (i633:Nat) (m:ByteArray) (l:Unit):Option (Step Int Unit) :=
  ((((ref03_Lattice_Leq k b c (i633:Int)).bind fun g=>(bif !g then some true else ((ref03_Lattice_Leq k b d (i633:Int)).bind fun h=>some (!h))))).bind fun e=>(bif e then ref03_Lattice_Join.j1 k () else ((forL (ref03_Lattice_Join.b2 k b c d i633) 0 i.Names true).bind (Lr.k (fun r=>some (.ret r)) (fun f=>(bif f then some (.ret (i633:Int)) else ref03_Lattice_Join.j1 k ()))))))
def ref03_Lattice_Join (k:Nat) (b:Option Tref03_Lattice) (d:Int) (e:Int):Option (Int) :=
  (optE b none fun c=>((forL (ref03_Lattice_Join.b0 k b d e c) 0 c.Names ()).bind (Lr.k (fun r=>some r) (fun f=>some (-1:Int)))))
def ref03_Find.b0 (k:Nat) (b:ByteArray) (i26:Nat) (c:ByteArray) (d:Unit):Option (Step Int Unit) :=
  (bif decide (c=b) then some (.ret (i26:Int)) else some (.next ()))
def ref03_Find (k:Nat) (b:List ByteArray) (c:ByteArray):Option (Int) :=
  ((forL (ref03_Find.b0 k c) 0 b ()).bind (Lr.k (fun r=>some r) (fun d=>some (-1:Int))))
def ref03_Lattice_Meet.j1 (k:Nat) (b:Unit):Option (Step Int Unit) :=
  some (.next ())
def ref03_Lattice_Meet.b2 (k:Nat) (b:Option Tref03_Lattice) (e:Int) (f:Int) (i633:Nat) (i1144:Nat) (m:ByteArray) (g:Bool):Option (Step Int Bool) :=
  ((((((ref03_Lattice_Leq k b (i1144:Int) e).bind fun h=>(bif h then ((ref03_Lattice_Leq k b (i1144:Int) f).bind fun i=>(bif i then ((ref03_Lattice_Leq k b (i1144:Int) (i633:Int)).bind fun l=>some (!l)) else some false)) else some false))).bind fun d=>(bif d then some false else some g))).bind fun c=>some (.next c))
def ref03_Lattice_Meet.b0 (k:Nat) (b:Option Tref03_Lattice) (c:Int) (d:Int) (i:Tref03_Lattice) (i633:Nat) (m:ByteArray) (l:Unit):Option (Step Int Unit) :=
  ((((ref03_Lattice_Leq k b (i633:Int) c).bind fun g=>(bif !g then some true else ((ref03_Lattice_Leq k b (i633:Int) d).bind fun h=>some (!h))))).bind fun e=>(bif e then ref03_Lattice_Meet.j1 k () else ((forL (ref03_Lattice_Meet.b2 k b c d i633) 0 i.Names true).bind (Lr.k (fun r=>some (.ret r)) (fun f=>(bif f then some (.ret (i633:Int)) else ref03_Lattice_Meet.j1 k ()))))))
def ref03_Lattice_Meet (k:Nat) (b:Option Tref03_Lattice) (d:Int) (e:Int):Option (Int) :=
  (optE b none fun c=>((forL (ref03_Lattice_Meet.b0 k b d e c) 0 c.Names ()).bind (Lr.k (fun r=>some r) (fun f=>some (-1:Int)))))
def ref03_New.b1 (k:Nat) (i4657:Nat) (d:List ByteArray) (i4992:Nat) (n:ByteArray) (b:(List (List Bool))):Option (Step ((Option Tref03_Lattice) × Int) (List (List Bool))) :=
  (((bif !decide ((i4657:Int)=(i4992:Int)) then ((getO b (i4657:Int)).bind fun h=>((getO h (i4992:Int)).bind fun i=>(bif i then ((getO b (i4992:Int)).bind fun l=>((getO l (i4657:Int)).bind fun m=>some (b,m))) else some (b,false)))) else some (b,false))).bind fun c=>(bif c.2 then some (.ret ((none:Option Tref03_Lattice),(12:Int))) else ((((ref03_Lattice_Join k (some (Tref03_Lattice.mk (([]:List ByteArray) ++ d) c.1)) (i4657:Int) (i4992:Int)).bind fun f=>(bif decide (f < (0:Int)) then some true else ((ref03_Lattice_Meet k (some (Tref03_Lattice.mk (([]:List ByteArray) ++ d) c.1)) (i4657:Int) (i4992:Int)).bind fun g=>some (decide (g < (0:Int))))))).bind fun e=>(bif e then some (.ret ((none:Option Tref03_Lattice),(12:Int))) else some (.next c.1)))))
def ref03_New.b0 (k:Nat) (b:List ByteArray) (i4657:Nat) (e:ByteArray) (c:(List (List Bool))):Option (Step ((Option Tref03_Lattice) × Int) (List (List Bool))) :=
  ((forL (ref03_New.b1 k i4657 b) 0 b c).bind (Lr.k (fun r=>some (.ret r)) (fun d=>some (.next d))))
def ref03_New.b4 (k:Nat) (d:List ByteArray) (i6197:Nat) (e:TPair) (b:(List Bool) × (List Bool)):Option (Step ((Option Tref03_Lattice) × Int) ((List Bool) × (List Bool))) :=
  ((((ref03_Find k d e.Low).bind fun g=>((getO b.2 g).bind fun h=>(bif h then ((ref03_Find k d e.High).bind fun f=>((getO b.1 f).bind fun i=>some ((setO b.1 f true),b.2))) else some (b.1,b.2))))).bind fun c=>some (.next (c.1,c.2)))
def ref03_New.b3 (k:Nat) (c:List ByteArray) (d:List TPair) (i5921:Nat) (f:ByteArray) (b:(List Bool)):Option (Step ((Option Tref03_Lattice) × Int) (List Bool)) :=
  ((lim (([]:List Bool).length + b.length)).bind fun _=>((forL (ref03_New.b4 k c) 0 d ((([]:List Bool) ++ b),b)).bind (Lr.k (fun r=>some (.ret r)) (fun e=>some (.next e.1)))))
def ref03_New.b2 (k:Nat) (b:List ByteArray) (f:List TPair) (i5144:Nat) (g:ByteArray) (c:(List (List Bool))):Option (Step ((Option Tref03_Lattice) × Int) (List (List Bool))) :=
  ((mkO (b.length:Int) false).bind fun e=>((getO e (i5144:Int)).bind fun h=>((forL (ref03_New.b3 k b f) 0 b (setO e (i5144:Int) true)).bind (Lr.k (fun r=>some (.ret r)) (fun d=>((lim (c.length + ([d]).length)).bind fun _=>some (.next (c ++ [d]))))))))
def ref03_New.b5 (k:Nat) (b:List ByteArray) (i6300:Nat) (c:TPair) (g:Unit):Option (Step ((Option Tref03_Lattice) × Int) Unit) :=
  ((((ref03_Find k b c.Low).bind fun e=>(bif decide (e < (0:Int)) then some true else ((ref03_Find k b c.High).bind fun f=>some (decide (f < (0:Int))))))).bind fun d=>(bif d then some (.ret ((none:Option Tref03_Lattice),(11:Int))) else some (.next ())))
def ref03_New.b6 (k:Nat) (d:List ByteArray) (i6355:Nat) (b:ByteArray) (g:Unit):Option (Step ((Option Tref03_Lattice) × Int) Unit) :=
  (((bif decide (b=(⟨#[]⟩:ByteArray)) then some true else (bif decide ((30:Int) < (b.size:Int)) then some true else ((cutO d (0:Int) (i6355:Int)).bind fun f=>((ref03_Find k f b).bind fun e=>some (decide ((0:Int)≤e))))))).bind fun c=>(bif c then some (.ret ((none:Option Tref03_Lattice),(11:Int))) else some (.next ())))
def ref03_New (k:Nat) (b:List ByteArray) (c:List TPair):Option ((Option Tref03_Lattice) × Int) :=
  (((bif decide ((16:Int) < (b.length:Int)) then some true else some (decide ((64:Int) < (c.length:Int))))).bind fun d=>(bif d then some ((none:Option Tref03_Lattice),(8:Int)) else ((forL (ref03_New.b6 k b) 0 b ()).bind (Lr.k (fun r=>some r) (fun h=>((forL (ref03_New.b5 k b) 0 c ()).bind (Lr.k (fun r=>some r) (fun g=>((lim (([]:List ByteArray).length + b.length)).bind fun _=>((forL (ref03_New.b2 k b c) 0 b ([]:List (List Bool))).bind (Lr.k (fun r=>some r) (fun e=>(bif decide ((b.length:Int)=(0:Int)) then some ((none:Option Tref03_Lattice),(12:Int)) else ((forL (ref03_New.b0 k b) 0 b e).bind (Lr.k (fun r=>some r) (fun f=>some ((some (Tref03_Lattice.mk (([]:List ByteArray) ++ b) f)),(0:Int))))))))))))))))))
def ref08_Catalog_Table.b0 (k:Nat) (b:ByteArray) (i58:Nat) (c:TRelation) (d:Unit):Option (Step Int Unit) :=
  (bif decide (c.Name=b) then some (.ret (i58:Int)) else some (.next ()))
def ref08_Catalog_Table (k:Nat) (b:Option Tref08_Catalog) (c:ByteArray):Option (Int) :=
  (optE b none fun d=>((forL (ref08_Catalog_Table.b0 k c) 0 d.Tables ()).bind (Lr.k (fun r=>some r) (fun e=>some (-1:Int)))))
def ref08_Col.b0 (k:Nat) (b:ByteArray) (i26:Nat) (c:TCol) (d:Unit):Option (Step Int Unit) :=
  (bif decide (c.Name=b) then some (.ret (i26:Int)) else some (.next ()))
def ref08_Col (k:Nat) (b:List TCol) (c:ByteArray):Option (Int) :=
  ((forL (ref08_Col.b0 k c) 0 b ()).bind (Lr.k (fun r=>some r) (fun d=>some (-1:Int))))
def ref08_Catalog_level (k:Nat) (b:Option Tref08_Catalog) (c:ByteArray):Option (Int) :=
  (optE b none fun f=>(optE f.L none fun d=>((ref03_Find k d.Names c).bind fun e=>some e)))
def ref08_kids (k:Nat) (b:TExpr):Option (Int) :=
  (((bif decide ((1:Int)≤b.Kind) then some (decide (b.Kind≤(5:Int))) else some false)).bind fun c=>(bif c then some (0:Int) else (((bif decide (b.Kind=(8:Int)) then some true else some (decide (b.Kind=(9:Int))))).bind fun d=>(bif d then some (1:Int) else (bif decide (b.Kind=(11:Int)) then some (3:Int) else (((bif decide (b.Kind=(10:Int)) then (bif decide (b.S=(⟨#[111,114]⟩:ByteArray)) then some true else (bif decide (b.S=(⟨#[97,110,100]⟩:ByteArray)) then some true else (bif decide (b.S=(⟨#[61]⟩:ByteArray)) then some true else (bif decide (b.S=(⟨#[60,62]⟩:ByteArray)) then some true else (bif decide (b.S=(⟨#[60]⟩:ByteArray)) then some true else (bif decide (b.S=(⟨#[60,61]⟩:ByteArray)) then some true else (bif decide (b.S=(⟨#[62]⟩:ByteArray)) then some true else some (decide (b.S=(⟨#[62,61]⟩:ByteArray)))))))))) else some false)).bind fun e=>(bif e then some (2:Int) else some (-1:Int))))))))
def ref08_Shape.b0 (k:Nat) (s_ref08_Shape:TTable→TExpr→Int→Option Bool) (b:TTable) (c:Int) (i113:Nat) (d:TExpr) (f:Unit):Option (Step Bool Unit) :=
  ((s_ref08_Shape b d (w64 (c + (1:Int)))).bind fun e=>(bif !e then some (.ret false) else some (.next ())))
def ref08_Shape.F (k:Nat) (s_ref08_Shape:TTable→TExpr→Int→Option Bool) (c:TTable) (b:TExpr) (d:Int):Option (Bool) :=
  (((bif decide ((40:Int) < d) then some true else (bif decide ((0:Int) < (b.Q.length:Int)) then some true else ((ref08_kids k b).bind fun i=>some (!decide (i=(b.Kids.length:Int))))))).bind fun e=>(bif e then some false else (((bif decide (b.Kind=(2:Int)) then (bif !decide (b.N=(0:Int)) then (bif !decide (b.N=(1:Int)) then some true else (bif decide (b.Kind=(4:Int)) then some (decide ((1000:Int) < (b.S.size:Int))) else some false)) else (bif decide (b.Kind=(4:Int)) then some (decide ((1000:Int) < (b.S.size:Int))) else some false)) else (bif decide (b.Kind=(4:Int)) then some (decide ((1000:Int) < (b.S.size:Int))) else some false))).bind fun f=>(bif f then some false else (((bif decide (b.Kind=(5:Int)) then ((ref08_Col k c.Cols b.S).bind fun h=>(bif decide (h < (0:Int)) then some true else (bif !decide (b.T=(⟨#[]⟩:ByteArray)) then some (!decide (b.T=c.Name)) else some false))) else some false)).bind fun g=>(bif g then some false else ((forL (ref08_Shape.b0 k s_ref08_Shape c d) 0 b.Kids ()).bind (Lr.k (fun r=>some r) (fun l=>some true)))))))))
def ref08_Shape:Nat→TTable→TExpr→Int→Option Bool
  | 0=>fun _ _ _=>none
  | k + 1=>ref08_Shape.F k (ref08_Shape k)
def ref08_may (k:Nat) (b:Int):Option (Bool) :=
  (((bif decide (b=(0:Int)) then some true else some (decide (b=(1:Int))))).bind fun c=>some c)
def ref08_both (k:Nat) (b:Int) (c:Int):Option (Int) :=
  (((bif decide (b=(-1:Int)) then some true else some (decide (c=(-1:Int))))).bind fun e=>(bif e then some (-1:Int) else (bif decide (b=(0:Int)) then some c else (((bif decide (c=(0:Int)) then some true else some (decide (b=c)))).bind fun d=>(bif d then some b else some (-1:Int))))))
def ref08_Type.b0 (k:Nat) (s_ref08_Type:TTable→TExpr→Option Int) (d:TTable) (i399:Nat) (e:TExpr) (c:(List Int)):Option (Step Int (List Int)) :=
  ((s_ref08_Type d e).bind fun b=>(bif decide (b=(-1:Int)) then some (.ret (-1:Int)) else ((lim (c.length + ([b]).length)).bind fun _=>some (.next (c ++ [b])))))
def ref08_Type.F (k:Nat) (s_ref08_Type:TTable→TExpr→Option Int) (d:TTable) (b:TExpr):Option (Int) :=
  ((forL (ref08_Type.b0 k s_ref08_Type d) 0 b.Kids ([]:List Int)).bind (Lr.k (fun r=>some r) (fun c=>(((bif decide (b.Kind=(1:Int)) then some (decide (b.Kind=(1:Int))) else (bif decide (b.Kind=(2:Int)) then some (decide (b.Kind=(2:Int))) else (bif decide (b.Kind=(3:Int)) then some (decide (b.Kind=(3:Int))) else some (decide (b.Kind=(4:Int))))))).bind fun e=>(bif e then some (w64 (b.Kind - (1:Int))) else (bif decide (b.Kind=(5:Int)) then ((ref08_Col k d.Cols b.S).bind fun h=>((getO d.Cols h).bind fun i=>some i.Type_)) else (bif decide (b.Kind=(8:Int)) then ((getO c (0:Int)).bind fun l=>((ref08_may k l).bind fun m=>(bif !m then some (-1:Int) else some (1:Int)))) else (bif decide (b.Kind=(9:Int)) then some (1:Int) else (bif decide (b.Kind=(11:Int)) then ((getO c (0:Int)).bind fun n=>((ref08_may k n).bind fun o=>(bif !o then some (-1:Int) else ((getO c (1:Int)).bind fun p=>((getO c (2:Int)).bind fun s=>((ref08_both k p s).bind fun t=>some t)))))) else (((bif decide (b.S=(⟨#[111,114]⟩:ByteArray)) then some true else some (decide (b.S=(⟨#[97,110,100]⟩:ByteArray))))).bind fun f=>(bif f then ((((getO c (0:Int)).bind fun u=>((ref08_may k u).bind fun v=>(bif !v then some true else ((getO c (1:Int)).bind fun x=>((ref08_may k x).bind fun y=>some (!y))))))).bind fun g=>(bif g then some (-1:Int) else some (1:Int))) else ((getO c (0:Int)).bind fun z=>((getO c (1:Int)).bind fun aa=>((ref08_both k z aa).bind fun ab=>(bif decide (ab=(-1:Int)) then some (-1:Int) else some (1:Int))))))))))))))))
def ref08_Type:Nat→TTable→TExpr→Option Int
  | 0=>fun _ _=>none
  | k + 1=>ref08_Type.F k (ref08_Type k)
def ref08_Catalog_Below.b0 (k:Nat) (s_ref08_Catalog_Below:(Option Tref08_Catalog)→TTable→TExpr→Int→Option Bool) (b:Option Tref08_Catalog) (c:TTable) (d:Int) (i119:Nat) (e:TExpr) (g:Unit):Option (Step Bool Unit) :=
  ((s_ref08_Catalog_Below b c e d).bind fun f=>(bif !f then some (.ret false) else some (.next ())))
def ref08_Catalog_Below.F (k:Nat) (s_ref08_Catalog_Below:(Option Tref08_Catalog)→TTable→TExpr→Int→Option Bool) (b:Option Tref08_Catalog) (c:TTable) (d:TExpr) (e:Int):Option (Bool) :=
  (((bif decide (d.Kind=(5:Int)) then (optE b none fun g=>((ref08_Col k c.Cols d.S).bind fun h=>((getO c.Cols h).bind fun i=>((ref08_Catalog_level k b i.Level).bind fun l=>((ref03_Lattice_Leq k g.L l e).bind fun m=>some (!m)))))) else some false)).bind fun f=>(bif f then some false else ((forL (ref08_Catalog_Below.b0 k s_ref08_Catalog_Below b c e) 0 d.Kids ()).bind (Lr.k (fun r=>some r) (fun n=>some true)))))
def ref08_Catalog_Below:Nat→(Option Tref08_Catalog)→TTable→TExpr→Int→Option Bool
  | 0=>fun _ _ _ _=>none
  | k + 1=>ref08_Catalog_Below.F k (ref08_Catalog_Below k)
def ref08_Catalog_table.b0 (k:Nat) (d:(List Int)) (c:(List TField) × Bool) (b:Tref08_Catalog) (e:Int) (f:TTable) (i1238:Nat) (m:Int) (l:Unit):Option (Step (TRelation × Int × Tref08_Catalog) Unit) :=
  ((getO d (i1238:Int)).bind fun g=>((getO c.1 g).bind fun h=>((ref03_Lattice_Leq k b.L h.Level e).bind fun i=>(bif !i then some (.ret ((TRelation.mk f.Name e c.1 d (-1:Int) []),(15:Int),b)) else some (.next ())))))
def ref08_Catalog_table.b1 (k:Nat) (b:TTable) (m:Int) (h:(List TField) × Bool) (g:Tref08_Catalog) (i1302:Nat) (d:ByteArray) (c:(List Int)):Option (Step (TRelation × Int × Tref08_Catalog) (List Int)) :=
  ((((ref08_Col k b.Cols d).bind fun i=>(bif decide (i < (0:Int)) then some true else ((cutO b.Key (0:Int) (i1302:Int)).bind fun n=>((ref03_Find k n d).bind fun l=>some (decide ((0:Int)≤l))))))).bind fun f=>(bif f then some (.ret ((TRelation.mk b.Name m h.1 c (-1:Int) []),(11:Int),g)) else ((ref08_Col k b.Cols d).bind fun e=>((lim (c.length + ([e]).length)).bind fun _=>some (.next (c ++ [e]))))))
def ref08_Catalog_table.b2 (k:Nat) (f:Tref08_Catalog) (i1450:Nat) (b:TCol) (c:(List TField) × Bool):Option (Step (TRelation × Int × Tref08_Catalog) ((List TField) × Bool)) :=
  ((ref08_Catalog_level k (some f) b.Level).bind fun d=>(((bif c.2 then some true else some (decide (d < (0:Int))))).bind fun e=>((lim (c.1.length + ([(TField.mk b.Name b.Type_ b.Null d)]).length)).bind fun _=>some (.next ((c.1 ++ [(TField.mk b.Name b.Type_ b.Null d)]),e)))))
def ref08_Catalog_table.b3 (k:Nat) (e:TTable) (d:Tref08_Catalog) (i1516:Nat) (b:TCol) (f:Unit):Option (Step (TRelation × Int × Tref08_Catalog) Unit) :=
  (((bif decide (b.Type_ < (1:Int)) then some true else some (decide ((3:Int) < b.Type_)))).bind fun c=>(bif c then some (.ret ((TRelation.mk e.Name (0:Int) [] [] (-1:Int) []),(3:Int),d)) else some (.next ())))
def ref08_Catalog_table.b4 (k:Nat) (b:TTable) (e:Tref08_Catalog) (i1576:Nat) (c:TCol) (g:Unit):Option (Step (TRelation × Int × Tref08_Catalog) Unit) :=
  (((bif decide (c.Name=(⟨#[]⟩:ByteArray)) then some true else ((ref08_Col k b.Cols c.Name).bind fun f=>some (decide (f < (i1576:Int)))))).bind fun d=>(bif d then some (.ret ((TRelation.mk b.Name (0:Int) [] [] (-1:Int) []),(11:Int),e)) else some (.next ())))
def ref08_Catalog_table (k:Nat) (c:Tref08_Catalog) (b:TTable):Option (TRelation × Int × Tref08_Catalog) :=
  (((bif decide ((b.Cols.length:Int)=(0:Int)) then some true else some (decide ((40:Int) < (b.Cols.length:Int))))).bind fun l=>(bif l then some ((TRelation.mk b.Name (0:Int) [] [] (-1:Int) []),(8:Int),c) else (((bif decide (b.Name=(⟨#[]⟩:ByteArray)) then some true else ((ref08_Catalog_Table k (some c) b.Name).bind fun x=>some (decide ((0:Int)≤x))))).bind fun m=>(bif m then some ((TRelation.mk b.Name (0:Int) [] [] (-1:Int) []),(11:Int),c) else ((forL (ref08_Catalog_table.b4 k b c) 0 b.Cols ()).bind (Lr.k (fun r=>some r) (fun y=>((forL (ref08_Catalog_table.b3 k b c) 0 b.Cols ()).bind (Lr.k (fun r=>some r) (fun z=>((ref08_Catalog_level k (some c) b.Rows).bind fun d=>((forL (ref08_Catalog_table.b2 k c) 0 b.Cols (([]:List TField),decide (d < (0:Int)))).bind (Lr.k (fun r=>some r) (fun e=>(bif e.2 then some ((TRelation.mk b.Name d e.1 [] (-1:Int) []),(11:Int),c) else ((forL (ref08_Catalog_table.b1 k b d e c) 0 b.Key ([]:List Int)).bind (Lr.k (fun r=>some r) (fun f=>((forL (ref08_Catalog_table.b0 k f e c d b) 0 f ()).bind (Lr.k (fun r=>some r) (fun aa=>(((bif decide (b.Hide=(⟨#[]⟩:ByteArray)) then some (decide ((b.When.length:Int)=(0:Int))) else some false)).bind fun n=>(bif n then some ((TRelation.mk b.Name d e.1 f (-1:Int) []),(0:Int),c) else ((ref08_Catalog_level k (some c) b.Hide).bind fun g=>(bif decide (g < (0:Int)) then some ((TRelation.mk b.Name d e.1 f g []),(11:Int),c) else ((ref03_Lattice_Leq k c.L d g).bind fun o=>(bif !o then some ((TRelation.mk b.Name d e.1 f g []),(15:Int),c) else (((bif !decide ((b.When.length:Int)=(1:Int)) then some true else ((getO b.When (0:Int)).bind fun u=>((ref08_Shape k b u (1:Int)).bind fun v=>some (!v))))).bind fun i=>(bif i then some ((TRelation.mk b.Name d e.1 f g []),(18:Int),c) else ((getO b.When (0:Int)).bind fun h=>((ref08_Type k b h).bind fun p=>((ref08_may k p).bind fun s=>(bif !s then some ((TRelation.mk b.Name d e.1 f g []),(3:Int),c) else ((ref08_Catalog_Below k (some c) b h d).bind fun t=>(bif !t then some ((TRelation.mk b.Name d e.1 f g []),(15:Int),c) else some ((TRelation.mk b.Name d e.1 f g b.When),(0:Int),c))))))))))))))))))))))))))))))))))))
def ref08_Find.b0 (k:Nat) (c:ByteArray) (i32:Nat) (b:TNamed) (d:Unit):Option (Step (Int × Bool) Unit) :=
  (bif decide (b.Name=c) then some (.ret (b.Level,true)) else some (.next ()))
def ref08_Find (k:Nat) (b:List TNamed) (c:ByteArray):Option (Int × Bool) :=
  ((forL (ref08_Find.b0 k c) 0 b ()).bind (Lr.k (fun r=>some r) (fun d=>some ((0:Int),false))))
def ref08_Catalog_named.b0 (k:Nat) (c:Tref08_Catalog) (i419:Nat) (b:TPair) (d:(List TNamed)):Option (Step ((List TNamed) × Int × Int × Tref08_Catalog) (List TNamed)) :=
  ((ref08_Find k d b.Low).bind fun g=>(((bif decide (b.Low=(⟨#[]⟩:ByteArray)) then some true else (bif g.2 then some true else ((ref08_Catalog_level k (some c) b.High).bind fun h=>some (decide (h < (0:Int))))))).bind fun f=>(bif f then some (.ret ([],(11:Int),w64 ((i419:Int) + (1:Int)),c)) else ((ref08_Catalog_level k (some c) b.High).bind fun e=>((lim (d.length + ([(TNamed.mk b.Low e)]).length)).bind fun _=>some (.next (d ++ [(TNamed.mk b.Low e)])))))))
def ref08_Catalog_named (k:Nat) (b:Tref08_Catalog) (c:List TPair):Option ((List TNamed) × Int × Int × Tref08_Catalog) :=
  ((forL (ref08_Catalog_named.b0 k b) 0 c ([]:List TNamed)).bind (Lr.k (fun r=>some r) (fun d=>some (d,(0:Int),(0:Int),b))))
def ref08_New.b0 (k:Nat) (f:(Option Tref03_Lattice) × Int) (c:Int) (i448:Nat) (e:TTable) (d:(List TRelation)):Option (Step ((Option Tref08_Catalog) × Int × Int) (List TRelation)) :=
  ((ref08_Catalog_table k (Tref08_Catalog.mk f.1 d [] [] c) e).bind fun b=>(bif !decide (b.2.1=(0:Int)) then some (.ret ((none:Option Tref08_Catalog),b.2.1,w64 ((i448:Int) + (1:Int)))) else ((lim (b.2.2.Tables.length + ([b.1]).length)).bind fun _=>some (.next (b.2.2.Tables ++ [b.1])))))
def ref08_New (k:Nat) (b:TSchema):Option ((Option Tref08_Catalog) × Int × Int) :=
  ((ref03_New k b.Levels b.Edges).bind fun c=>(bif !decide (c.2=(0:Int)) then some ((none:Option Tref08_Catalog),c.2,(0:Int)) else (((bif decide ((20:Int) < (b.Tables.length:Int)) then some true else (bif decide ((20:Int) < (b.Channels.length:Int)) then some true else (bif decide ((20:Int) < (b.Principals.length:Int)) then some true else (bif decide (b.Limit < (0:Int)) then some true else some (decide ((100:Int) < b.Limit))))))).bind fun h=>(bif h then some ((none:Option Tref08_Catalog),(8:Int),(0:Int)) else (((bif decide (b.Limit=(0:Int)) then some ((100:Int)) else some b.Limit)).bind fun d=>((forL (ref08_New.b0 k c d) 0 b.Tables ([]:List TRelation)).bind (Lr.k (fun r=>some r) (fun g=>((ref08_Catalog_named k (Tref08_Catalog.mk c.1 g [] [] d) b.Channels).bind fun e=>(bif !decide (e.2.1=(0:Int)) then some ((none:Option Tref08_Catalog),e.2.1,e.2.2.1) else ((ref08_Catalog_named k (Tref08_Catalog.mk c.1 g [] [] d) b.Principals).bind fun f=>(bif !decide (f.2.1=(0:Int)) then some ((none:Option Tref08_Catalog),f.2.1,f.2.2.1) else some ((some (Tref08_Catalog.mk c.1 g e.1 f.1 d)),(0:Int),(0:Int))))))))))))))
def law09_Both (k:Nat) (b:TSchema):Option ((Option Tschema_Catalog) × (Option Tref08_Catalog)) :=
  ((law08_Few k b).bind fun f=>(bif !f then some ((none:Option Tschema_Catalog),(none:Option Tref08_Catalog)) else ((schema_New k b).bind fun c=>((ref08_New k b).bind fun d=>(((bif !decide (c.2.2=(0:Int)) then some true else some (!decide (d.2.1=(0:Int))))).bind fun e=>(bif e then some ((none:Option Tschema_Catalog),(none:Option Tref08_Catalog)) else some (c.1,d.1)))))))
def ref17_Column (k:Nat) (d:Option Tref08_Catalog) (e:Int) (f:Int):Option (Int) :=
  (optE d none fun b=>((getO b.Tables e).bind fun c=>((getO c.Cols f).bind fun g=>((ref03_Lattice_Join k b.L c.Rows g.Level).bind fun h=>some h))))
def law22_alive (k:Nat):Option Bool:=some true
def slices_Clone_api_Relation_api_Relation (k:Nat) (b:List TRelation):Option ((List TRelation)) :=
  ((lim (([]:List TRelation).length + b.length)).bind fun _=>some (([]:List TRelation) ++ b))
def slices_Clone_api_Field_api_Field (k:Nat) (b:List TField):Option ((List TField)) :=
  ((lim (([]:List TField).length + b.length)).bind fun _=>some (([]:List TField) ++ b))
def slices_Clone_int_int (k:Nat) (b:List Int):Option ((List Int)) :=
  ((lim (([]:List Int).length + b.length)).bind fun _=>some (([]:List Int) ++ b))
def schema_Catalog_Tables.b0 (k:Nat) (i525:Nat) (l:TRelation) (d:(List TRelation)):Option (Step (List TRelation) (List TRelation)) :=
  ((getO d (i525:Int)).bind fun f=>((slices_Clone_api_Field_api_Field k f.Cols).bind fun g=>((slices_Clone_int_int k f.Key).bind fun h=>((slices_Clone_api_Expr_api_Expr k f.When).bind fun i=>((getO d (i525:Int)).bind fun b=>((getO (setO d (i525:Int) (TRelation.mk b.Name b.Rows g b.Key b.Hide b.When)) (i525:Int)).bind fun c=>((getO (setO (setO d (i525:Int) (TRelation.mk b.Name b.Rows g b.Key b.Hide b.When)) (i525:Int) (TRelation.mk c.Name c.Rows c.Cols h c.Hide c.When)) (i525:Int)).bind fun e=>some (.next (setO (setO (setO d (i525:Int) (TRelation.mk b.Name b.Rows g b.Key b.Hide b.When)) (i525:Int) (TRelation.mk c.Name c.Rows c.Cols h c.Hide c.When)) (i525:Int) (TRelation.mk e.Name e.Rows e.Cols e.Key e.Hide i))))))))))
def schema_Catalog_Tables (k:Nat) (b:Option Tschema_Catalog):Option ((List TRelation)) :=
  (bif b.isNone then some [] else (optE b none fun e=>((slices_Clone_api_Relation_api_Relation k e.tables_).bind fun c=>((forL (schema_Catalog_Tables.b0 k) 0 c c).bind (Lr.k (fun r=>some r) (fun d=>some d))))))
def schema_Catalog_Lattice (k:Nat) (b:Option Tschema_Catalog):Option ((Option Tlattice_Lattice)) :=
  (bif b.isNone then some (none:Option Tlattice_Lattice) else (optE b none fun c=>some c.lattice_))
def labels_of (k:Nat) (b:Option Tschema_Catalog) (c:List TNamed):Option ((Option Tlabels_marker)) :=
  ((schema_Catalog_Lattice k b).bind fun d=>((schema_Catalog_Tables k b).bind fun e=>some (some (Tlabels_marker.mk d e c))))
def lattice_Lattice_Bottom.b0 (k:Nat) (c:Tlattice_Lattice) (i58:Nat) (d:ByteArray) (b:Int):Option (Step Int Int) :=
  ((inB 16 b).bind fun _=>((inB 16 (i58:Int)).bind fun _=>some (.next (c.meet_.getD (b.toNat * 16 + (i58:Int).toNat * 1) 0))))
def lattice_Lattice_Bottom (k:Nat) (b:Option Tlattice_Lattice):Option (Int) :=
  ((lattice_Lattice_is k b (0:Int)).bind fun e=>(bif !e then some (-1:Int) else (optE b none fun c=>((forL (lattice_Lattice_Bottom.b0 k c) 0 c.names_ (0:Int)).bind (Lr.k (fun r=>some r) (fun d=>some d))))))
def lattice_Lattice_Join (k:Nat) (b:Option Tlattice_Lattice) (c:Int) (d:Int):Option (Int) :=
  ((((lattice_Lattice_is k b c).bind fun g=>(bif !g then some true else ((lattice_Lattice_is k b d).bind fun h=>some (!h))))).bind fun e=>(bif e then some (-1:Int) else (optE b none fun f=>((inB 16 c).bind fun _=>((inB 16 d).bind fun _=>some (f.join_.getD (c.toNat * 16 + d.toNat * 1) 0))))))
def labels_marker_together.b0 (k:Nat) (d:Tlabels_marker) (i70:Nat) (c:Int) (b:Int):Option (Step Int Int) :=
  ((lattice_Lattice_Join k d.l_ b c).bind fun e=>some (.next e))
def labels_marker_together (k:Nat) (c:Option Tlabels_marker) (d:List Int):Option (Int) :=
  (optE c none fun b=>((lattice_Lattice_Bottom k b.l_).bind fun f=>((forL (labels_marker_together.b0 k b) 0 d f).bind (Lr.k (fun r=>some r) (fun e=>some e)))))
def labels_marker_column (k:Nat) (b:Option Tlabels_marker) (d:Int) (e:Int):Option (Int) :=
  (optE b none fun h=>((getO h.rels_ d).bind fun c=>((getO c.Cols e).bind fun f=>((labels_marker_together k b ([c.Rows,f.Level])).bind fun g=>some g))))
def labels_Column (k:Nat) (d:Option Tschema_Catalog) (b:Int) (c:Int):Option (Int) :=
  ((schema_Catalog_Tables k d).bind fun e=>(((bif decide (b < (0:Int)) then some true else (bif decide ((e.length:Int)≤b) then some true else (bif decide (c < (0:Int)) then some true else ((getO e b).bind fun i=>some (decide ((i.Cols.length:Int)≤c))))))).bind fun f=>(bif f then some (-1:Int) else ((labels_of k d []).bind fun g=>((labels_marker_column k g b c).bind fun h=>some h)))))
def slices_Clone_api_Named_api_Named (k:Nat) (b:List TNamed):Option ((List TNamed)) :=
  ((lim (([]:List TNamed).length + b.length)).bind fun _=>some (([]:List TNamed) ++ b))
def schema_Catalog_Principals (k:Nat) (b:Option Tschema_Catalog):Option ((List TNamed)) :=
  (bif b.isNone then some [] else (optE b none fun c=>((slices_Clone_api_Named_api_Named k c.principals_).bind fun d=>some d)))
def schema_find.b0 (k:Nat) (c:ByteArray) (i29:Nat) (b:TNamed) (d:Unit):Option (Step (Int × Bool) Unit) :=
  (bif decide (b.Name=c) then some (.ret (b.Level,true)) else some (.next ()))
def schema_find (k:Nat) (b:List TNamed) (c:ByteArray):Option (Int × Bool) :=
  ((forL (schema_find.b0 k c) 0 b ()).bind (Lr.k (fun r=>some r) (fun d=>some ((0:Int),false))))
def schema_Catalog_Principal (k:Nat) (c:Option Tschema_Catalog) (d:ByteArray):Option (Int × Bool) :=
  ((schema_Catalog_Principals k c).bind fun e=>((schema_find k e d).bind fun b=>some (b.1,b.2)))
def audit_sight_1_1 (k:Nat) (d:Int) (b:Option Tlattice_Lattice) (c:Int):Option (Bool × (Option Tlattice_Lattice) × Int) :=
  ((lattice_Lattice_Leq k b d c).bind fun e=>some (!e,b,c))
def slices_IndexFunc_int_int_audit_sight_1_1.b0 (k:Nat) (b:Option Tlattice_Lattice) (c:Int) (i35:Nat) (d:Int) (f:Unit):Option (Step (Int × (Option Tlattice_Lattice) × Int) Unit) :=
  ((audit_sight_1_1 k d b c).bind fun e=>(bif e.1 then some (.ret ((i35:Int),b,c)) else some (.next ())))
def slices_IndexFunc_int_int_audit_sight_1_1 (k:Nat) (d:List Int) (b:Option Tlattice_Lattice) (c:Int):Option (Int × (Option Tlattice_Lattice) × Int) :=
  ((forL (slices_IndexFunc_int_int_audit_sight_1_1.b0 k b c) 0 d ()).bind (Lr.k (fun r=>some r) (fun e=>some ((-1:Int),b,c))))
def slices_ContainsFunc_int_int_audit_sight_1_1 (k:Nat) (d:List Int) (b:Option Tlattice_Lattice) (c:Int):Option (Bool × (Option Tlattice_Lattice) × Int) :=
  ((slices_IndexFunc_int_int_audit_sight_1_1 k d b c).bind fun e=>some (decide ((0:Int)≤e.1),b,c))
def audit_Reads.b1 (k:Nat) (e:Int × Bool) (h:Option Tschema_Catalog) (i1704:Nat) (i:(Option Tlattice_Lattice)) (c:TRelation) (i2046:Nat) (d:TField) (b:(List TGrant)):Option (Step (List TGrant) (List TGrant)) :=
  (((((bif e.2 then ((labels_Column k h (i1704:Int) (i2046:Int)).bind fun l=>((slices_ContainsFunc_int_int_audit_sight_1_1 k ([l]) i e.1).bind fun m=>some (!m.1))) else some false)).bind fun g=>(bif g then ((lim (b.length + ([(TGrant.mk c.Name d.Name)]).length)).bind fun _=>some ((b ++ [(TGrant.mk c.Name d.Name)]))) else some b))).bind fun f=>some (.next f))
def audit_Reads.b0 (k:Nat) (g:Int × Bool) (c:Option Tschema_Catalog) (f:(Option Tlattice_Lattice)) (i1704:Nat) (b:TRelation) (d:(List TGrant)):Option (Step (List TGrant) (List TGrant)) :=
  ((forL (audit_Reads.b1 k g c i1704 f b) 0 b.Cols d).bind (Lr.k (fun r=>some (.ret r)) (fun e=>some (.next e))))
def audit_Reads (k:Nat) (b:Option Tschema_Catalog) (c:ByteArray):Option ((List TGrant)) :=
  ((schema_Catalog_Principal k b c).bind fun g=>((schema_Catalog_Lattice k b).bind fun e=>((schema_Catalog_Tables k b).bind fun f=>((forL (audit_Reads.b0 k g b e) 0 f ([]:List TGrant)).bind (Lr.k (fun r=>some r) (fun d=>some d))))))
def ref03_Texts.b0 (k:Nat) (b:List ByteArray) (i37:Nat) (c:ByteArray) (e:Unit):Option (Step Bool Unit) :=
  ((getO b (i37:Int)).bind fun d=>(bif !decide (c=d) then some (.ret false) else some (.next ())))
def ref03_Texts (k:Nat) (b:List ByteArray) (c:List ByteArray):Option (Bool) :=
  (bif !decide ((b.length:Int)=(c.length:Int)) then some false else ((forL (ref03_Texts.b0 k c) 0 b ()).bind (Lr.k (fun r=>some r) (fun d=>some true))))
def schema_Catalog_Channels (k:Nat) (b:Option Tschema_Catalog):Option ((List TNamed)) :=
  (bif b.isNone then some [] else (optE b none fun c=>((slices_Clone_api_Named_api_Named k c.channels_).bind fun d=>some d)))
def audit_Hears.b0 (k:Nat) (d:Int × Bool) (g:(Option Tlattice_Lattice)) (i478:Nat) (c:TNamed) (b:(List ByteArray)):Option (Step (List ByteArray) (List ByteArray)) :=
  (((((bif d.2 then ((slices_ContainsFunc_int_int_audit_sight_1_1 k ([c.Level]) g d.1).bind fun h=>some (!h.1)) else some false)).bind fun f=>(bif f then ((lim (b.length + ([c.Name]).length)).bind fun _=>some ((b ++ [c.Name]))) else some b))).bind fun e=>some (.next e))
def audit_Hears (k:Nat) (b:Option Tschema_Catalog) (c:ByteArray):Option ((List ByteArray)) :=
  ((schema_Catalog_Principal k b c).bind fun g=>((schema_Catalog_Lattice k b).bind fun e=>((schema_Catalog_Channels k b).bind fun f=>((forL (audit_Hears.b0 k g e) 0 f ([]:List ByteArray)).bind (Lr.k (fun r=>some r) (fun d=>some d))))))
def audit_Who.b0 (k:Nat) (e:Option Tschema_Catalog) (f:Int) (i400:Nat) (c:TNamed) (b:(List ByteArray)):Option (Step (List ByteArray) (List ByteArray)) :=
  ((((schema_Catalog_Lattice k e).bind fun g=>((lattice_Lattice_Leq k g f c.Level).bind fun h=>(bif h then ((lim (b.length + ([c.Name]).length)).bind fun _=>some ((b ++ [c.Name]))) else some b)))).bind fun d=>some (.next d))
def audit_Who (k:Nat) (b:Option Tschema_Catalog) (c:Int):Option ((List ByteArray)) :=
  ((schema_Catalog_Principals k b).bind fun e=>((forL (audit_Who.b0 k b c) 0 e ([]:List ByteArray)).bind (Lr.k (fun r=>some r) (fun d=>some d))))
def law22_AuditTells.b0 (k:Nat) (i3724:Nat) (c:TGrant) (b:(List TGrant)):Option (Step Bool (List TGrant)) :=
  ((getO b (i3724:Int)).bind fun d=>(bif (!(decide (c.Table=d.Table) && decide (c.Column=d.Column))) then some (.ret false) else some (.next b)))
def law22_AuditTells.b1 (k:Nat) (g:Tref08_Catalog) (e:Int) (i3750:Nat) (c:TNamed) (b:(List ByteArray)):Option (Step Bool (List ByteArray)) :=
  ((((ref03_Lattice_Leq k g.L e c.Level).bind fun f=>(bif f then ((lim (b.length + ([c.Name]).length)).bind fun _=>some ((b ++ [c.Name]))) else some b))).bind fun d=>some (.next d))
def law22_AuditTells.b2 (k:Nat) (d:Int × Bool) (h:Tref08_Catalog) (i3820:Nat) (c:TNamed) (b:(List ByteArray)):Option (Step Bool (List ByteArray)) :=
  (((((bif d.2 then ((ref03_Lattice_Leq k h.L c.Level d.1).bind fun g=>some g) else some false)).bind fun f=>(bif f then ((lim (b.length + ([c.Name]).length)).bind fun _=>some ((b ++ [c.Name]))) else some b))).bind fun e=>some (.next e))
def law22_AuditTells.b4 (k:Nat) (e:Int × Bool) (h:(Option Tschema_Catalog) × (Option Tref08_Catalog)) (i3906:Nat) (m:Tref08_Catalog) (c:TRelation) (i4477:Nat) (d:TField) (b:(List TGrant)):Option (Step Bool (List TGrant)) :=
  (((((bif e.2 then ((ref17_Column k h.2 (i3906:Int) (i4477:Int)).bind fun i=>((ref03_Lattice_Leq k m.L i e.1).bind fun l=>some l)) else some false)).bind fun g=>(bif g then ((lim (b.length + ([(TGrant.mk c.Name d.Name)]).length)).bind fun _=>some ((b ++ [(TGrant.mk c.Name d.Name)]))) else some b))).bind fun f=>some (.next f))
def law22_AuditTells.b3 (k:Nat) (g:Int × Bool) (e:(Option Tschema_Catalog) × (Option Tref08_Catalog)) (f:Tref08_Catalog) (i3906:Nat) (b:TRelation) (c:(List TGrant)):Option (Step Bool (List TGrant)) :=
  ((forL (law22_AuditTells.b4 k g e i3906 f b) 0 b.Cols c).bind (Lr.k (fun r=>some (.ret r)) (fun d=>some (.next d))))
def law22_AuditTells (k:Nat) (l:TSchema) (d:ByteArray) (e:Int):Option (Bool) :=
  ((law09_Both k l).bind fun c=>(bif c.1.isNone then ((law22_alive kAlive ).bind fun v=>some v) else (optE c.2 none fun b=>((ref08_Find k b.Principals d).bind fun h=>((forL (law22_AuditTells.b3 k h c b) 0 b.Tables ([]:List TGrant)).bind (Lr.k (fun r=>some r) (fun f=>((forL (law22_AuditTells.b2 k h b) 0 b.Channels ([]:List ByteArray)).bind (Lr.k (fun r=>some r) (fun m=>((forL (law22_AuditTells.b1 k b e) 0 b.Principals ([]:List ByteArray)).bind (Lr.k (fun r=>some r) (fun n=>((audit_Reads k c.1 d).bind fun g=>(bif !decide ((g.length:Int)=(f.length:Int)) then some false else ((forL (law22_AuditTells.b0 k) 0 g f).bind (Lr.k (fun r=>some r) (fun x=>((((audit_Hears k c.1 d).bind fun o=>((ref03_Texts k o m).bind fun p=>(bif p then ((audit_Who k c.1 e).bind fun s=>((ref03_Texts k s n).bind fun t=>(bif t then ((law22_alive kAlive ).bind fun u=>some u) else some false))) else some false)))).bind fun i=>some i)))))))))))))))))))


end Go.Proofs.YtknhbphhdfknaaaGreatDoor
