/- The functions, as plain Lean: each Go function with the same answers (none: it panics there, or the rounds are used up). Written by mk.py. -/
import Derived.Test.YtlokemkpgnngjaaGreatDoorCxF
import Derived.Lib.SlicesCompact
set_option linter.unusedVariables false
set_option linter.unusedSimpArgs false
set_option maxRecDepth 100000
namespace Go.Proofs.YtlokemkpgnngjaaGreatDoor
mutual
inductive TNode where
  | mk (Kind : Int) (N : Int) (S : ByteArray) (Kids : List TNode) (Plans : List TPlan)
inductive TPlan where
  | mk (Kind : Int) (N : Int) (Kids : List TPlan) (E : List TNode) (Keys : List Int) (Aggs : List TGather) (Desc : List Bool) (Width : Int)
inductive TGather where
  | mk (Fn : ByteArray) (E : List TNode)
end
def TNode.Kind : TNode → Int | .mk x _ _ _ _ => x
def TNode.N : TNode → Int | .mk _ x _ _ _ => x
def TNode.S : TNode → ByteArray | .mk _ _ x _ _ => x
def TNode.Kids : TNode → List TNode | .mk _ _ _ x _ => x
def TNode.Plans : TNode → List TPlan | .mk _ _ _ _ x => x
def TPlan.Kind : TPlan → Int | .mk x _ _ _ _ _ _ _ => x
def TPlan.N : TPlan → Int | .mk _ x _ _ _ _ _ _ => x
def TPlan.Kids : TPlan → List TPlan | .mk _ _ x _ _ _ _ _ => x
def TPlan.E : TPlan → List TNode | .mk _ _ _ x _ _ _ _ => x
def TPlan.Keys : TPlan → List Int | .mk _ _ _ _ x _ _ _ => x
def TPlan.Aggs : TPlan → List TGather | .mk _ _ _ _ _ x _ _ => x
def TPlan.Desc : TPlan → List Bool | .mk _ _ _ _ _ _ x _ => x
def TPlan.Width : TPlan → Int | .mk _ _ _ _ _ _ _ x => x
def TGather.Fn : TGather → ByteArray | .mk x _ => x
def TGather.E : TGather → List TNode | .mk _ x => x
structure TField where
  Name : ByteArray
  Type_ : Int
  Null : Bool
  Level : Int
mutual
inductive TQuery where
  | mk (Kind : Int) (Distinct : Bool) (Items : List TItem) (From : List TFrom) (Where : List TExpr) (Group : List TExpr) (Having : List TExpr) (Order : List TKey) (Limit : Int) (Kids : List TQuery)
inductive TExpr where
  | mk (Kind : Int) (N : Int) (S : ByteArray) (T : ByteArray) (Kids : List TExpr) (Q : List TQuery)
inductive TItem where
  | mk (E : TExpr) (Name : ByteArray)
inductive TFrom where
  | mk (Kind : Int) (Table : ByteArray) (Visible : Bool) (As : ByteArray) (Q : List TQuery) (Kids : List TFrom) (On : List TExpr)
inductive TKey where
  | mk (E : TExpr) (Desc : Bool)
end
def TQuery.Kind : TQuery → Int | .mk x _ _ _ _ _ _ _ _ _ => x
def TQuery.Distinct : TQuery → Bool | .mk _ x _ _ _ _ _ _ _ _ => x
def TQuery.Items : TQuery → List TItem | .mk _ _ x _ _ _ _ _ _ _ => x
def TQuery.From : TQuery → List TFrom | .mk _ _ _ x _ _ _ _ _ _ => x
def TQuery.Where : TQuery → List TExpr | .mk _ _ _ _ x _ _ _ _ _ => x
def TQuery.Group : TQuery → List TExpr | .mk _ _ _ _ _ x _ _ _ _ => x
def TQuery.Having : TQuery → List TExpr | .mk _ _ _ _ _ _ x _ _ _ => x
def TQuery.Order : TQuery → List TKey | .mk _ _ _ _ _ _ _ x _ _ => x
def TQuery.Limit : TQuery → Int | .mk _ _ _ _ _ _ _ _ x _ => x
def TQuery.Kids : TQuery → List TQuery | .mk _ _ _ _ _ _ _ _ _ x => x
def TExpr.Kind : TExpr → Int | .mk x _ _ _ _ _ => x
def TExpr.N : TExpr → Int | .mk _ x _ _ _ _ => x
def TExpr.S : TExpr → ByteArray | .mk _ _ x _ _ _ => x
def TExpr.T : TExpr → ByteArray | .mk _ _ _ x _ _ => x
def TExpr.Kids : TExpr → List TExpr | .mk _ _ _ _ x _ => x
def TExpr.Q : TExpr → List TQuery | .mk _ _ _ _ _ x => x
def TItem.E : TItem → TExpr | .mk x _ => x
def TItem.Name : TItem → ByteArray | .mk _ x => x
def TFrom.Kind : TFrom → Int | .mk x _ _ _ _ _ _ => x
def TFrom.Table : TFrom → ByteArray | .mk _ x _ _ _ _ _ => x
def TFrom.Visible : TFrom → Bool | .mk _ _ x _ _ _ _ => x
def TFrom.As : TFrom → ByteArray | .mk _ _ _ x _ _ _ => x
def TFrom.Q : TFrom → List TQuery | .mk _ _ _ _ x _ _ => x
def TFrom.Kids : TFrom → List TFrom | .mk _ _ _ _ _ x _ => x
def TFrom.On : TFrom → List TExpr | .mk _ _ _ _ _ _ x => x
def TKey.E : TKey → TExpr | .mk x _ => x
def TKey.Desc : TKey → Bool | .mk _ x => x
structure TRelation where
  Name : ByteArray
  Rows : Int
  Cols : List TField
  Key : List Int
  Hide : Int
  When : List TExpr
structure TPair where
  Low : ByteArray
  High : ByteArray
structure TCol where
  Name : ByteArray
  Type_ : Int
  Null : Bool
  Level : ByteArray
structure TTable where
  Name : ByteArray
  Rows : ByteArray
  Cols : List TCol
  Key : List ByteArray
  Hide : ByteArray
  When : List TExpr
structure TSchema where
  Levels : List ByteArray
  Edges : List TPair
  Tables : List TTable
  Channels : List TPair
  Principals : List TPair
  Limit : Int
structure TNamed where
  Name : ByteArray
  Level : Int
structure Tlattice_Lattice where
  names_ : List ByteArray
  at_ : List (ByteArray × Int)
  up_ : List Int
  down_ : List Int
  join_ : List Int
  meet_ : List Int
structure Tschema_Catalog where
  lattice_ : Option Tlattice_Lattice
  tables_ : List TRelation
  at_ : List (ByteArray × Int)
  channels_ : List TNamed
  principals_ : List TNamed
  limit_ : Int

def law10_weighNodes.b1 (k:Nat) (s_law10_weighNodes:(List TNode)→Int→Option Int) (s_law10_WeighPlan:TPlan→Int→Option Int) (c:TNode) (e:Int) (b:Int × Int):Option (Step Int (Int × Int)) :=
  (((bif decide (b.2 < (c.Plans.length:Int)) then some (decide (b.1 < (1000:Int))) else some false)).bind fun d=>(bif d then ((getO c.Plans b.2).bind fun f=>((s_law10_WeighPlan f (w64 (e + (1:Int)))).bind fun g=>some (.next (w64 (b.1 + g),w64 (b.2 + (1:Int)))))) else some (.brk (b.1,b.2))))
def law10_weighNodes.b0 (k:Nat) (s_law10_weighNodes:(List TNode)→Int→Option Int) (s_law10_WeighPlan:TPlan→Int→Option Int) (c:List TNode) (d:Int) (b:Int × Int):Option (Step Int (Int × Int)) :=
  (((bif decide (b.2 < (c.length:Int)) then some (decide (b.1 < (1000:Int))) else some false)).bind fun f=>(bif f then ((getO c b.2).bind fun e=>((s_law10_weighNodes e.Kids (w64 (d + (1:Int)))).bind fun h=>((whileL (law10_weighNodes.b1 k s_law10_weighNodes s_law10_WeighPlan e d) k (w64 ((w64 (b.1 + (1:Int))) + h),(0:Int))).bind (Lr.k (fun r=>some (.ret r)) (fun g=>some (.next (g.1,w64 (b.2 + (1:Int))))))))) else some (.brk (b.1,b.2))))
def law10_weighNodes.F (k:Nat) (s_law10_weighNodes:(List TNode)→Int→Option Int) (s_law10_WeighPlan:TPlan→Int→Option Int) (c:List TNode) (b:Int):Option (Int) :=
  (bif decide ((60:Int) < b) then some (1000:Int) else ((whileL (law10_weighNodes.b0 k s_law10_weighNodes s_law10_WeighPlan c b) k ((0:Int),(0:Int))).bind (Lr.k (fun r=>some r) (fun d=>some (min d.1 (1000:Int))))))
def law10_WeighPlan.b0 (k:Nat) (s_law10_weighNodes:(List TNode)→Int→Option Int) (s_law10_WeighPlan:TPlan→Int→Option Int) (c:TPlan) (e:Int) (b:Int × Int):Option (Step Int (Int × Int)) :=
  (((bif decide (b.2 < (c.Kids.length:Int)) then some (decide (b.1 < (1000:Int))) else some false)).bind fun d=>(bif d then ((getO c.Kids b.2).bind fun f=>((s_law10_WeighPlan f (w64 (e + (1:Int)))).bind fun g=>some (.next (w64 (b.1 + g),w64 (b.2 + (1:Int)))))) else some (.brk (b.1,b.2))))
def law10_WeighPlan.b1 (k:Nat) (s_law10_weighNodes:(List TNode)→Int→Option Int) (s_law10_WeighPlan:TPlan→Int→Option Int) (c:TPlan) (e:Int) (b:Int × Int):Option (Step Int (Int × Int)) :=
  (((bif decide (b.2 < (c.Aggs.length:Int)) then some (decide (b.1 < (1000:Int))) else some false)).bind fun d=>(bif d then ((getO c.Aggs b.2).bind fun f=>((s_law10_weighNodes f.E (w64 (e + (1:Int)))).bind fun g=>some (.next (w64 ((w64 (b.1 + (1:Int))) + g),w64 (b.2 + (1:Int)))))) else some (.brk (b.1,b.2))))
def law10_WeighPlan.F (k:Nat) (s_law10_weighNodes:(List TNode)→Int→Option Int) (s_law10_WeighPlan:TPlan→Int→Option Int) (b:TPlan) (c:Int):Option (Int) :=
  (((bif decide ((60:Int) < c) then some true else (bif decide ((60:Int) < (b.Keys.length:Int)) then some true else some (decide ((60:Int) < (b.Desc.length:Int)))))).bind fun d=>(bif d then some (1000:Int) else ((s_law10_weighNodes b.E (w64 (c + (1:Int)))).bind fun g=>((whileL (law10_WeighPlan.b1 k s_law10_weighNodes s_law10_WeighPlan b c) k (w64 ((1:Int) + g),(0:Int))).bind (Lr.k (fun r=>some r) (fun e=>((whileL (law10_WeighPlan.b0 k s_law10_weighNodes s_law10_WeighPlan b c) k (e.1,(0:Int))).bind (Lr.k (fun r=>some r) (fun f=>some (min f.1 (1000:Int)))))))))))
mutual
def law10_weighNodes:Nat→(List TNode)→Int→Option Int
  | 0=>fun _ _=>none
  | k + 1=>law10_weighNodes.F k (law10_weighNodes k) (law10_WeighPlan k)
def law10_WeighPlan:Nat→TPlan→Int→Option Int
  | 0=>fun _ _=>none
  | k + 1=>law10_WeighPlan.F k (law10_weighNodes k) (law10_WeighPlan k)
end
def law10_alive (k:Nat):Option Bool:=some true
def algebra_walk.b0 (k:Nat) (s_algebra_walk:TNode→(TNode→Option Bool)→Option Bool) (b:TNode→Option Bool) (i73:Nat) (c:TNode) (e:Unit):Option (Step Bool Unit) :=
  ((s_algebra_walk c b).bind fun d=>(bif !d then some (.ret false) else some (.next ())))
def algebra_walk.F (k:Nat) (s_algebra_walk:TNode→(TNode→Option Bool)→Option Bool) (b:TNode) (c:TNode→Option Bool):Option (Bool) :=
  ((c b).bind fun d=>(bif !d then some false else ((forL (algebra_walk.b0 k s_algebra_walk c) 0 b.Kids ()).bind (Lr.k (fun r=>some r) (fun e=>some true)))))
def algebra_walk:Nat→TNode→(TNode→Option Bool)→Option Bool
  | 0=>fun _ _=>none
  | k + 1=>algebra_walk.F k (algebra_walk k)
def algebra_always.j0 (k:Nat) (b:Unit):Option (Bool) :=
  some false
def algebra_always.j1 (k:Nat) (b:Unit):Option (Bool) :=
  some true
def algebra_always (k:Nat) (b:ByteArray):Option (Bool) :=
  (((bif decide (b=(⟨#[111,114]⟩:ByteArray)) then some (decide (b=(⟨#[111,114]⟩:ByteArray))) else (bif decide (b=(⟨#[97,110,100]⟩:ByteArray)) then some (decide (b=(⟨#[97,110,100]⟩:ByteArray))) else (bif decide (b=(⟨#[61]⟩:ByteArray)) then some (decide (b=(⟨#[61]⟩:ByteArray))) else some (decide (b=(⟨#[60,62]⟩:ByteArray))))))).bind fun c=>(bif c then algebra_always.j1 k () else (((bif decide (b=(⟨#[60]⟩:ByteArray)) then some (decide (b=(⟨#[60]⟩:ByteArray))) else (bif decide (b=(⟨#[60,61]⟩:ByteArray)) then some (decide (b=(⟨#[60,61]⟩:ByteArray))) else (bif decide (b=(⟨#[62]⟩:ByteArray)) then some (decide (b=(⟨#[62]⟩:ByteArray))) else some (decide (b=(⟨#[62,61]⟩:ByteArray))))))).bind fun d=>(bif d then algebra_always.j1 k () else algebra_always.j0 k ()))))
def algebra_Total_1.j0 (k:Nat) (b:Unit):Option (Bool) :=
  some false
def algebra_Total_1.j1 (k:Nat) (b:Unit):Option (Bool) :=
  some true
def algebra_Total_1 (k:Nat) (b:TNode):Option (Bool) :=
  (((bif decide (b.Kind=(1:Int)) then some (decide (b.Kind=(1:Int))) else (bif decide (b.Kind=(2:Int)) then some (decide (b.Kind=(2:Int))) else (bif decide (b.Kind=(3:Int)) then some (decide (b.Kind=(3:Int))) else (bif decide (b.Kind=(4:Int)) then some (decide (b.Kind=(4:Int))) else (bif decide (b.Kind=(5:Int)) then some (decide (b.Kind=(5:Int))) else some (decide (b.Kind=(6:Int))))))))).bind fun c=>(bif c then algebra_Total_1.j1 k () else (((bif decide (b.Kind=(8:Int)) then some (decide (b.Kind=(8:Int))) else (bif decide (b.Kind=(9:Int)) then some (decide (b.Kind=(9:Int))) else some (decide (b.Kind=(11:Int)))))).bind fun d=>(bif d then algebra_Total_1.j1 k () else (bif decide (b.Kind=(10:Int)) then ((algebra_always k b.S).bind fun e=>some e) else algebra_Total_1.j0 k ())))))
def algebra_Total (k:Nat) (b:TNode):Option (Bool) :=
  ((algebra_walk k b (fun d=>algebra_Total_1 k d)).bind fun c=>some c)
def algebra_Uses_1 (k:Nat) (b:TNode) (c:List Int):Option (Bool × (List Int)) :=
  (((bif decide (b.Kind=(5:Int)) then ((lim (c.length + ([b.N]).length)).bind fun _=>some ((c ++ [b.N]))) else some c)).bind fun d=>some (true,d))
def slices_Sort_int_int (k:Nat) (b:List Int):Option (List Int):=((lim b.length).bind fun _=>some (b.mergeSort fun x y=>decide (x≤y)))
def slices_Compact_int_int (k:Nat) (b:List Int):Option (List Int):=some (Lib.compact b)
def algebra_walk_algebra_Uses_1.b0 (k:Nat) (s_algebra_walk_algebra_Uses_1:TNode→(List Int)→Option (Bool × (List Int))) (i156:Nat) (d:TNode) (c:(List Int)):Option (Step (Bool × (List Int)) (List Int)) :=
  ((s_algebra_walk_algebra_Uses_1 d c).bind fun b=>(bif !b.1 then some (.ret (false,b.2)) else some (.next b.2)))
def algebra_walk_algebra_Uses_1.F (k:Nat) (s_algebra_walk_algebra_Uses_1:TNode→(List Int)→Option (Bool × (List Int))) (c:TNode) (d:List Int):Option (Bool × (List Int)) :=
  ((algebra_Uses_1 k c d).bind fun b=>(bif !b.1 then some (false,b.2) else ((forL (algebra_walk_algebra_Uses_1.b0 k s_algebra_walk_algebra_Uses_1) 0 c.Kids b.2).bind (Lr.k (fun r=>some r) (fun e=>some (true,e))))))
def algebra_walk_algebra_Uses_1:Nat→TNode→(List Int)→Option (Bool × (List Int))
  | 0=>fun _ _=>none
  | k + 1=>algebra_walk_algebra_Uses_1.F k (algebra_walk_algebra_Uses_1 k)
def algebra_Uses (k:Nat) (b:TNode):Option ((List Int)) :=
  ((algebra_walk_algebra_Uses_1 k b ([]:List Int)).bind fun c=>((slices_Sort_int_int k c.2).bind fun d=>((slices_Compact_int_int k d).bind fun e=>some e)))
def law10_in.b0 (k:Nat) (b:Int) (i26:Nat) (c:Int) (d:Unit):Option (Step Bool Unit) :=
  (bif decide (c=b) then some (.ret true) else some (.next ()))
def law10_in (k:Nat) (b:Int) (c:List Int):Option (Bool) :=
  ((forL (law10_in.b0 k b) 0 c ()).bind (Lr.k (fun r=>some r) (fun d=>some false)))
def law10_AlgebraTotal.b0 (k:Nat) (c:(List Int)) (i517:Nat) (f:Int) (b:(List Int) × Int):Option (Step Bool ((List Int) × Int)) :=
  ((getO b.1 (i517:Int)).bind fun d=>((law10_in k d c).bind fun e=>(bif !e then some (.ret false) else some (.next (b.1,w64 (b.2 + (1:Int)))))))
def law10_AlgebraTotal.b1 (k:Nat) (d:(List Int)) (e:(List Int)) (i541:Nat) (b:Int) (h:Unit):Option (Step Bool Unit) :=
  ((((law10_in k b d).bind fun f=>(bif !f then ((law10_in k b e).bind fun g=>some (!g)) else some false))).bind fun c=>(bif c then some (.ret false) else some (.next ())))
def law10_AlgebraTotal.b2 (k:Nat) (b:TNode) (c:TNode) (i602:Nat) (g:ByteArray) (f:Unit):Option (Step Bool Unit) :=
  ((getO ([(⟨#[43]⟩:ByteArray),(⟨#[45]⟩:ByteArray),(⟨#[42]⟩:ByteArray),(⟨#[47]⟩:ByteArray),(⟨#[37]⟩:ByteArray),(⟨#[124,124]⟩:ByteArray)]) (i602:Int)).bind fun d=>((algebra_Total k (TNode.mk (10:Int) (0:Int) d ([b,c]) [])).bind fun e=>(bif e then some (.ret false) else some (.next ()))))
def law10_AlgebraTotal.b3 (k:Nat) (c:TNode) (d:TNode) (b:Bool) (i644:Nat) (h:ByteArray) (g:Unit):Option (Step Bool Unit) :=
  ((getO ([(⟨#[97,110,100]⟩:ByteArray),(⟨#[111,114]⟩:ByteArray),(⟨#[61]⟩:ByteArray),(⟨#[60,62]⟩:ByteArray),(⟨#[60]⟩:ByteArray),(⟨#[60,61]⟩:ByteArray),(⟨#[62]⟩:ByteArray),(⟨#[62,61]⟩:ByteArray)]) (i644:Int)).bind fun e=>((algebra_Total k (TNode.mk (10:Int) (0:Int) e ([c,d]) [])).bind fun f=>(bif !(f == b) then some (.ret false) else some (.next ()))))
def law10_AlgebraTotal (k:Nat) (b:TNode) (c:TNode):Option (Bool) :=
  ((((law10_weighNodes k ([b]) (0:Int)).bind fun y=>(bif decide ((100:Int) < y) then some true else ((law10_weighNodes k ([c]) (0:Int)).bind fun z=>some (decide ((100:Int) < z)))))).bind fun i=>(bif i then ((law10_alive kAlive ).bind fun o=>some o) else ((((algebra_Total k b).bind fun v=>(bif v then ((algebra_Total k c).bind fun x=>some x) else some false))).bind fun g=>((forL (law10_AlgebraTotal.b3 k b c g) 0 ([(⟨#[97,110,100]⟩:ByteArray),(⟨#[111,114]⟩:ByteArray),(⟨#[61]⟩:ByteArray),(⟨#[60,62]⟩:ByteArray),(⟨#[60]⟩:ByteArray),(⟨#[60,61]⟩:ByteArray),(⟨#[62]⟩:ByteArray),(⟨#[62,61]⟩:ByteArray)]) ()).bind (Lr.k (fun r=>some r) (fun aa=>((forL (law10_AlgebraTotal.b2 k b c) 0 ([(⟨#[43]⟩:ByteArray),(⟨#[45]⟩:ByteArray),(⟨#[42]⟩:ByteArray),(⟨#[47]⟩:ByteArray),(⟨#[37]⟩:ByteArray),(⟨#[124,124]⟩:ByteArray)]) ()).bind (Lr.k (fun r=>some r) (fun ab=>((((algebra_Total k (TNode.mk (8:Int) (0:Int) (⟨#[]⟩:ByteArray) ([b]) [])).bind fun p=>((algebra_Total k b).bind fun s=>(bif !(p == s) then some true else ((algebra_Total k (TNode.mk (7:Int) (0:Int) (⟨#[]⟩:ByteArray) ([b]) [])).bind fun t=>(bif t then some true else ((algebra_Total k (TNode.mk (11:Int) (0:Int) (⟨#[]⟩:ByteArray) ([b,c,(TNode.mk (8:Int) (0:Int) (⟨#[]⟩:ByteArray) ([b]) [])]) [])).bind fun u=>some (!(u == g))))))))).bind fun h=>(bif h then some false else ((algebra_Uses k b).bind fun d=>((algebra_Uses k c).bind fun e=>((algebra_Uses k (TNode.mk (11:Int) (0:Int) (⟨#[]⟩:ByteArray) ([b,c,(TNode.mk (8:Int) (0:Int) (⟨#[]⟩:ByteArray) ([b]) [])]) [])).bind fun f=>((forL (law10_AlgebraTotal.b1 k d e) 0 f ()).bind (Lr.k (fun r=>some r) (fun ac=>((lim (([]:List Int).length + d.length)).bind fun _=>((lim ((([]:List Int) ++ d).length + e.length)).bind fun _=>((forL (law10_AlgebraTotal.b0 k f) 0 ((([]:List Int) ++ d) ++ e) (((([]:List Int) ++ d) ++ e),(0:Int))).bind (Lr.k (fun r=>some r) (fun m=>(((bif decide ((f.length:Int)≤m.2) then ((law10_alive kAlive ).bind fun n=>some n) else some false)).bind fun l=>some l)))))))))))))))))))))))


end Go.Proofs.YtlokemkpgnngjaaGreatDoor
