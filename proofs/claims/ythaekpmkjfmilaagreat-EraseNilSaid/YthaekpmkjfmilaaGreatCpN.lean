/- The functions, as plain Lean: each Go function with the same answers (none: it panics there, or the rounds are used up). Written by mk.py. -/
import Derived.Test.YthaekpmkjfmilaaGreatCxF
set_option linter.unusedVariables false
set_option linter.unusedSimpArgs false
set_option maxRecDepth 100000
namespace Go.Proofs.YthaekpmkjfmilaaGreat
mutual
inductive TExpr where
  | mk (Kind : Int) (N : Int) (S : ByteArray) (T : ByteArray) (Kids : List TExpr) (Q : List TQuery)
inductive TQuery where
  | mk (Kind : Int) (Distinct : Bool) (Items : List TItem) (From : List TFrom) (Where : List TExpr) (Group : List TExpr) (Having : List TExpr) (Order : List TKey) (Limit : Int) (Kids : List TQuery)
inductive TItem where
  | mk (E : TExpr) (Name : ByteArray)
inductive TKey where
  | mk (E : TExpr) (Desc : Bool)
inductive TFrom where
  | mk (Kind : Int) (Table : ByteArray) (Visible : Bool) (As : ByteArray) (Q : List TQuery) (Kids : List TFrom) (On : List TExpr)
end
def TExpr.Kind : TExpr → Int | .mk x _ _ _ _ _ => x
def TExpr.N : TExpr → Int | .mk _ x _ _ _ _ => x
def TExpr.S : TExpr → ByteArray | .mk _ _ x _ _ _ => x
def TExpr.T : TExpr → ByteArray | .mk _ _ _ x _ _ => x
def TExpr.Kids : TExpr → List TExpr | .mk _ _ _ _ x _ => x
def TExpr.Q : TExpr → List TQuery | .mk _ _ _ _ _ x => x
def TQuery.Kind : TQuery → Int | .mk x _ _ _ _ _ _ _ _ _ => x
def TQuery.Distinct : TQuery → Bool | .mk _ x _ _ _ _ _ _ _ _ => x
def TQuery.Items : TQuery → List TItem | .mk _ _ x _ _ _ _ _ _ _ => x
def TQuery.From : TQuery → List TFrom | .mk _ _ _ x _ _ _ _ _ _ => x
def TQuery.Where : TQuery → List TExpr | .mk _ _ _ _ x _ _ _ _ _ => x
def TQuery.Group : TQuery → List TExpr | .mk _ _ _ _ _ x _ _ _ _ => x
def TQuery.Having : TQuery → List TExpr | .mk _ _ _ _ _ _ x _ _ _ => x
def TQuery.Order : TQuery → List TKey | .mk _ _ _ _ _ _ _ x _ _ => x
def TQuery.Limit : TQuery → Int | .mk _ _ _ _ _ _ _ _ x _ => x
def TQuery.Kids : TQuery → List TQuery | .mk _ _ _ _ _ _ _ _ _ x => x
def TItem.E : TItem → TExpr | .mk x _ => x
def TItem.Name : TItem → ByteArray | .mk _ x => x
def TKey.E : TKey → TExpr | .mk x _ => x
def TKey.Desc : TKey → Bool | .mk _ x => x
def TFrom.Kind : TFrom → Int | .mk x _ _ _ _ _ _ => x
def TFrom.Table : TFrom → ByteArray | .mk _ x _ _ _ _ _ => x
def TFrom.Visible : TFrom → Bool | .mk _ _ x _ _ _ _ => x
def TFrom.As : TFrom → ByteArray | .mk _ _ _ x _ _ _ => x
def TFrom.Q : TFrom → List TQuery | .mk _ _ _ _ x _ _ => x
def TFrom.Kids : TFrom → List TFrom | .mk _ _ _ _ _ x _ => x
def TFrom.On : TFrom → List TExpr | .mk _ _ _ _ _ _ x => x
structure TCol where
  Name : ByteArray
  Type_ : Int
  Null : Bool
  Level : ByteArray
structure TTable where
  Name : ByteArray
  Rows : ByteArray
  Cols : List TCol
  Key : List ByteArray
  Hide : ByteArray
  When : List TExpr
structure TPair where
  Low : ByteArray
  High : ByteArray
structure TSchema where
  Levels : List ByteArray
  Edges : List TPair
  Tables : List TTable
  Channels : List TPair
  Principals : List TPair
  Limit : Int
structure TValue where
  Type_ : Int
  N : Int
  S : ByteArray
structure TView where
  Seen : Bool
  Cols : List Bool
  Rows : List (List TValue)
structure TField where
  Name : ByteArray
  Type_ : Int
  Null : Bool
  Level : Int
structure TRelation where
  Name : ByteArray
  Rows : Int
  Cols : List TField
  Key : List Int
  Hide : Int
  When : List TExpr
structure TNamed where
  Name : ByteArray
  Level : Int
structure Tlattice_Lattice where
  names_ : List ByteArray
  at_ : List (ByteArray × Int)
  up_ : List Int
  down_ : List Int
  join_ : List Int
  meet_ : List Int
structure Tschema_Catalog where
  lattice_ : Option Tlattice_Lattice
  tables_ : List TRelation
  at_ : List (ByteArray × Int)
  channels_ : List TNamed
  principals_ : List TNamed
  limit_ : Int
structure Tstore_DB where
  c_ : Option Tschema_Catalog
  rels_ : List TRelation
  rows_ : List (List (List TValue))
structure Tstore_when where
  rel_ : TRelation
  row_ : List TValue
structure Terase_eye where
  d_ : Option Tstore_DB
  rels_ : List TRelation
  level_ : Int
structure TOut where
  Channel : Int
  Value_ : TValue

def store_DB_has (k:Nat) (b:Option Tstore_DB) (c:Int):Option (Bool) :=
  (((bif !b.isNone then (bif decide ((0:Int)≤c) then (optE b none fun e=>some (decide (c < (e.rels_.length:Int)))) else some false) else some false)).bind fun d=>some d)
def store_DB_Hidden (k:Nat) (b:Option Tstore_DB) (c:Int) (h:List TValue):Option (Bool) :=
  ((((store_DB_has k b c).bind fun e=>(bif !e then some true else (optE b none fun f=>((getO f.rels_ c).bind fun g=>some (decide ((g.When.length:Int)=(0:Int)))))))).bind fun d=>(bif d then some false else none))
def store_DB_Fits (k:Nat) (b:Option Tstore_DB) (c:Int) (d:List TValue):Option (Int) :=
  (bif b.isNone then some (1:Int) else none)
def law12_alive (k:Nat):Option Bool:=some true
def store_DB_Copy (k:Nat) (b:Option Tstore_DB):Option ((Option Tstore_DB)) :=
  (bif b.isNone then some (none:Option Tstore_DB) else none)
def store_DB_Put (k:Nat) (b:Option Tstore_DB) (c:Int) (f:List (List TValue)):Option (Int) :=
  ((store_DB_has k b c).bind fun e=>(bif !e then ((store_DB_Fits k b c []).bind fun d=>some d) else none))
def store_DB_Rows (k:Nat) (b:Option Tstore_DB) (c:Int):Option ((List (List TValue))) :=
  ((store_DB_has k b c).bind fun d=>(bif !d then some ([]:List (List TValue)) else none))
def slices_IndexFunc_api_Value_api_Value.b0 (k:Nat) (b:(List TValue)→Option Bool) (i37:Nat) (c:List TValue) (e:Unit):Option (Step Int Unit) :=
  ((b c).bind fun d=>(bif d then some (.ret (i37:Int)) else some (.next ())))
def slices_IndexFunc_api_Value_api_Value (k:Nat) (b:List (List TValue)) (c:(List TValue)→Option Bool):Option (Int) :=
  ((forL (slices_IndexFunc_api_Value_api_Value.b0 k c) 0 b ()).bind (Lr.k (fun r=>some r) (fun d=>some (-1:Int))))
def slices_DeleteFunc_api_Value_api_Value (k:Nat) (b:List (List TValue)) (c:(List TValue)→Option Bool):Option ((List (List TValue))) :=
  ((slices_IndexFunc_api_Value_api_Value k b c).bind fun d=>(bif decide (d=(-1:Int)) then some b else none))
def store_DB_Visible_1 (k:Nat) (b:List TValue) (c:Option (Option Tstore_DB)) (d:Option Int):Option (Bool) :=
  (optE c none fun e=>(optE d none fun f=>((store_DB_Hidden k e f b).bind fun g=>some g)))
def store_DB_Visible (k:Nat) (b:Option Tstore_DB) (c:Int):Option ((List (List TValue))) :=
  ((store_DB_Rows k b c).bind fun d=>((slices_DeleteFunc_api_Value_api_Value k d (fun f=>store_DB_Visible_1 k f (some b) (some c))).bind fun e=>some e))
def store_DB_Add (k:Nat) (c:Option Tstore_DB) (d:Int) (e:List TValue):Option (Int) :=
  ((store_DB_Fits k c d e).bind fun b=>(bif !decide (b=(0:Int)) then some b else none))
def store_DB_Same (k:Nat) (b:Option Tstore_DB) (c:Option Tstore_DB):Option (Bool) :=
  (((bif b.isNone then some true else some c.isNone)).bind fun e=>(bif e then (((bif b.isNone then some c.isNone else some false)).bind fun d=>some d) else none))
def store_New (k:Nat) (b:Option Tschema_Catalog):Option ((Option Tstore_DB)) :=
  (bif b.isNone then some (none:Option Tstore_DB) else none)
def store_Load.b0 (k:Nat) (c:Tstore_DB) (i65:Nat) (d:List (List TValue)) (e:Unit):Option (Step ((Option Tstore_DB) × Int × Int) Unit) :=
  ((store_DB_Put k (some c) (i65:Int) d).bind fun b=>(bif !decide (b=(0:Int)) then some (.ret ((none:Option Tstore_DB),w64 ((i65:Int) + (1:Int)),b)) else none))
def store_Load (k:Nat) (c:Option Tschema_Catalog) (d:List (List (List TValue))):Option ((Option Tstore_DB) × Int × Int) :=
  ((store_New k c).bind fun e=>(optE e (some ((none:Option Tstore_DB),(0:Int),(1:Int))) fun b=>((forL (store_Load.b0 k b) 0 d ()).bind (Lr.k (fun r=>some r) (fun f=>some ((some b),(0:Int),(0:Int)))))))
def store_DB_Catalog (k:Nat) (b:Option Tstore_DB):Option ((Option Tschema_Catalog)) :=
  (bif b.isNone then some (none:Option Tschema_Catalog) else none)
def law12_StoreNil (k:Nat) (b:Int) (c:List TValue):Option (Bool) :=
  ((store_Load k (none:Option Tschema_Catalog) []).bind fun d=>(optE d.1 ((((store_New k (none:Option Tschema_Catalog)).bind fun f=>(optE f (bif decide (d.2.2=(1:Int)) then ((store_DB_Catalog k (none:Option Tstore_DB)).bind fun g=>(bif g.isNone then ((store_DB_Rows k (none:Option Tstore_DB) b).bind fun h=>((store_DB_Visible k (none:Option Tstore_DB) b).bind fun i=>(bif decide ((w64 ((h.length:Int) + (i.length:Int)))=(0:Int)) then ((store_DB_Hidden k (none:Option Tstore_DB) b c).bind fun l=>(bif !l then ((store_DB_Fits k (none:Option Tstore_DB) b c).bind fun m=>(bif decide (m=(1:Int)) then ((store_DB_Put k (none:Option Tstore_DB) b []).bind fun n=>(bif decide (n=(1:Int)) then ((store_DB_Add k (none:Option Tstore_DB) b c).bind fun o=>(bif decide (o=(1:Int)) then ((store_DB_Copy k (none:Option Tstore_DB)).bind fun p=>(optE p ((store_DB_Same k (none:Option Tstore_DB) (none:Option Tstore_DB)).bind fun s=>(bif s then ((law12_alive kAlive ).bind fun t=>some t) else some false)) fun z=>some false)) else some false)) else some false)) else some false)) else some false)) else some false))) else some false)) else some false) fun x=>some false))).bind fun e=>some e) fun y=>((((store_New k (none:Option Tschema_Catalog)).bind fun u=>(optE u (some ()) fun aa=>some ()))).bind fun v=>some false)))
def law20_alive (k:Nat):Option Bool:=some true
def erase_Show (k:Nat) (b:Option Tstore_DB) (c:Int):Option ((List TView)) :=
  (bif b.isNone then some [] else none)
def erase_Same (k:Nat) (b:Option Tstore_DB) (c:Option Tstore_DB) (f:Int):Option (Bool) :=
  (((bif b.isNone then some true else some c.isNone)).bind fun e=>(bif e then (((bif b.isNone then some c.isNone else some false)).bind fun d=>some d) else none))
def schema_Catalog_Channels (k:Nat) (b:Option Tschema_Catalog):Option ((List TNamed)) :=
  (bif b.isNone then some [] else none)
def schema_Catalog_Lattice (k:Nat) (b:Option Tschema_Catalog):Option ((Option Tlattice_Lattice)) :=
  (bif b.isNone then some (none:Option Tlattice_Lattice) else none)
def lattice_Lattice_is (k:Nat) (b:Option Tlattice_Lattice) (c:Int):Option (Bool) :=
  (((bif !b.isNone then (bif decide ((0:Int)≤c) then (optE b none fun e=>some (decide (c < (e.names_.length:Int)))) else some false) else some false)).bind fun d=>some d)
def lattice_set_has (k:Nat) (b:Int) (c:Int):Option (Bool) :=
  ((shrO .u32 b c).bind fun d=>some (decide ((IntKind.wrap .u32 ((BitVec.ofInt (IntKind.bits .u32) d) &&& (BitVec.ofInt (IntKind.bits .u32) (1:Int))).toNat)=(1:Int))))
def lattice_Lattice_Leq (k:Nat) (b:Option Tlattice_Lattice) (c:Int) (d:Int):Option (Bool) :=
  ((((lattice_Lattice_is k b c).bind fun f=>(bif f then ((lattice_Lattice_is k b d).bind fun g=>(bif g then (optE b none fun h=>((getO h.up_ c).bind fun i=>((lattice_set_has k i d).bind fun l=>some l))) else some false)) else some false))).bind fun e=>some e)
def erase_Outs.b0 (k:Nat) (d:(List TNamed)) (g:Option Tschema_Catalog) (h:Int) (i823:Nat) (b:TOut) (c:(List TOut)):Option (Step (List TOut) (List TOut)) :=
  (((((bif decide ((0:Int)≤b.Channel) then (bif decide (b.Channel < (d.length:Int)) then ((getO d b.Channel).bind fun i=>((schema_Catalog_Lattice k g).bind fun l=>((lattice_Lattice_Leq k l i.Level h).bind fun m=>some m))) else some false) else some false)).bind fun f=>(bif f then ((lim (c.length + ([b]).length)).bind fun _=>some ((c ++ [b]))) else some c))).bind fun e=>some (.next e))
def erase_Outs (k:Nat) (b:Option Tschema_Catalog) (c:List TOut) (d:Int):Option ((List TOut)) :=
  ((schema_Catalog_Channels k b).bind fun f=>((forL (erase_Outs.b0 k f b d) 0 c ([]:List TOut)).bind (Lr.k (fun r=>some r) (fun e=>some e))))
def erase_Mix (k:Nat) (c:Option Tstore_DB) (d:Option Tstore_DB) (e:Int):Option ((Option Tstore_DB)) :=
  (((bif c.isNone then some true else some d.isNone)).bind fun b=>(bif b then some (none:Option Tstore_DB) else none))
def law20_EraseNil (k:Nat) (b:Int) (c:List TOut):Option (Bool) :=
  (bif decide ((60:Int) < (c.length:Int)) then ((law20_alive kAlive ).bind fun e=>some e) else ((((erase_Show k (none:Option Tstore_DB) b).bind fun f=>(bif decide ((f.length:Int)=(0:Int)) then ((erase_Same k (none:Option Tstore_DB) (none:Option Tstore_DB) b).bind fun g=>(bif g then ((erase_Mix k (none:Option Tstore_DB) (none:Option Tstore_DB) b).bind fun h=>(bif h.isNone then ((erase_Outs k (none:Option Tschema_Catalog) c b).bind fun i=>(bif decide ((i.length:Int)=(0:Int)) then ((law20_alive kAlive ).bind fun l=>some l) else some false)) else some false)) else some false)) else some false))).bind fun d=>some d))


end Go.Proofs.YthaekpmkjfmilaaGreat
